/- Parts of the proof. -/
import Derived.Test.YtobdoblpnanclaaGreatDoorMo00
import Init.Data.List.Lemmas
set_option linter.all false
namespace Go.Proofs.YtobdoblpnanclaaGreatDoor
open Proofs.Tryz
def val (β:Nat):List Nat->Nat
 | []=>0
 | d :: ds=>d+β*val β ds
def zP (β:Nat) (ds:List Nat):Prop:=∀ d∈ds,d<β
def xI (β:Nat) (ds:List Nat):Prop:=zP β ds/\ds.getLast?≠some 0
theorem Yr (β:Nat):val β []=0:=rfl
theorem YQ (β d:Nat) (ds:List Nat):val β (d :: ds)=d+β*val β ds:=rfl
theorem zdx (β d:Nat):val β [d]=d:=by simp [val]
theorem ZJ (β:Nat) (a b:List Nat):val β (a ++ b)=val β a+β ^ a.length*val β b:=by
 induction a with
 | nil=>simp [val]
 | cons d a ih=>simp only [List.cons_append,YQ,ih,List.length_cons,Nat.pow_succ,Nat.mul_add,Nat.add_assoc];rw [uH (β ^ a.length) β,Nat.mul_assoc]
theorem YE (β:Nat) (a:List Nat) (d:Nat):val β (a ++ [d])=val β a+β ^ a.length*d:=by rw [ZJ,zdx]
theorem zfg (β n:Nat):val β (List.replicate n 0)=0:=by
 induction n with
 | zero=>rfl
 | succ n ih=>rw [List.replicate_succ,YQ,ih];simp
theorem zP.nil (β:Nat):zP β []:=fun _ h=>by cases h
theorem zP.append {β:Nat} {a b:List Nat} (ha:zP β a) (hb:zP β b):zP β (a ++ b):=fun d h=>by
 rcases List.mem_append.1 h with h | h
 . exact ha d h
 . exact hb d h
theorem zP.cons {β d:Nat} {a:List Nat} (hd:d<β) (ha:zP β a):zP β (d :: a):=fun x h=>by
 rcases List.mem_cons.1 h with h | h
 . omega
 . exact ha x h
theorem zP.tail {β d:Nat} {a:List Nat} (h:zP β (d :: a)):zP β a:=fun x hx=>h x (List.mem_cons_of_mem _ hx)
theorem zP.head {β d:Nat} {a:List Nat} (h:zP β (d :: a)):d<β:=h d uP
theorem zP.take {β:Nat} {a:List Nat} (h:zP β a) (k:Nat):zP β (a.take k):=fun d hd=>h d (List.mem_of_mem_take hd)
theorem zP.drop {β:Nat} {a:List Nat} (h:zP β a) (k:Nat):zP β (a.drop k):=fun d hd=>h d (List.mem_of_mem_drop hd)
theorem zP.getD {β:Nat} {a:List Nat} (h:zP β a) (hβ:0<β) (k:Nat):a.getD k 0<β:=by
 rw [List.getD_eq_getElem?_getD]
 by_cases b:k<a.length
 . rw [List.getElem?_eq_getElem b];exact h _ (uO b)
 rw [List.getElem?_eq_none (by omega)];exact hβ
theorem zP.get {β:Nat} {a:List Nat} (h:zP β a) (k:Nat) (hk:k<a.length):a[k]<β:=h _ (uO hk)
theorem zP.replicate {β:Nat} (hβ:0<β) (n:Nat):zP β (List.replicate n 0):=fun d hd=>by rw [(List.mem_replicate.1 hd).2];exact hβ
theorem zP.set {β:Nat} {a:List Nat} (h:zP β a) (k d:Nat) (hd:d<β):zP β (a.set k d):=fun x b=>by
 rcases List.mem_or_eq_of_mem_set b with b | b
 . exact h x b
 . omega
theorem Yx {β:Nat} {ds:List Nat} (h:zP β ds):val β ds<β ^ ds.length:=by
 induction ds with
 | nil=>simp [val]
 | cons d ds ih=>
   have b:=ih h.tail;have j:=h.head;rw [YQ,List.length_cons,Nat.pow_succ];have e:β*(val β ds+1)<=β*β ^ ds.length:=Nat.mul_le_mul_left _ b;rw [Nat.mul_add,Nat.mul_one] at e;rw [uH (β ^ ds.length) β]
   omega
theorem x8 (β:Nat) (ds:List Nat) (k:Nat) (hk:k<=ds.length):val β ds=val β (ds.take k)+β ^ k*val β (ds.drop k):=by
 conv=>lhs;rw [<- List.take_append_drop k ds,ZJ,List.length_take,Nat.min_eq_left hk]
theorem zcp {α:Type} (ds:List α) (k:Nat) (hk:k<ds.length):ds.take (k+1)=ds.take k ++ [ds[k]]:=by
 rw [List.take_succ_eq_append_getElem hk]
theorem yQ (β:Nat) (ds:List Nat) (k:Nat) (hk:k<ds.length):val β (ds.take (k+1))=val β (ds.take k)+β ^ k*ds[k]:=by
 rw [zcp ds k hk,YE,List.length_take,Nat.min_eq_left (by omega)]
theorem YB (β:Nat) (ds:List Nat) (k:Nat) (hk:k<ds.length):val β (ds.drop k)=ds[k]+β*val β (ds.drop (k+1)):=by
 rw [List.drop_eq_getElem_cons hk,YQ]
theorem xI.nil (β:Nat):xI β []:=⟨zP.nil β,by simp⟩
theorem xI.last {β:Nat} {ds:List Nat} (h:xI β ds) (hne:ds≠[]):ds[ds.length - 1]'(by have:=List.length_pos_iff.2 hne;omega)≠0:=by
 intro b
 apply h.2
 rw [List.getLast?_eq_getElem?,List.getElem?_eq_getElem (by have:=List.length_pos_iff.2 hne;omega),b]
theorem xI.mk_ {β:Nat} {ds:List Nat} (h:zP β ds) (hl:∀ hne:0<ds.length,ds[ds.length - 1]≠0):xI β ds:=by
 refine ⟨h,?_⟩
 intro b
 rw [List.getLast?_eq_getElem?] at b
 obtain ⟨j,e⟩:=List.getElem?_eq_some_iff.1 b
 exact hl (by omega) e
theorem xI.ge {β:Nat} {ds:List Nat} (h:xI β ds) (hne:ds≠[]):β ^ (ds.length - 1)<=val β ds:=by
 have b:=List.length_pos_iff.2 hne
 have hl:=h.last hne
 have e:val β ds=val β (ds.take (ds.length - 1))+β ^ (ds.length - 1)*ds[ds.length - 1]:=by
  rw [<- yQ β ds (ds.length - 1) (by omega),show ds.length - 1+1=ds.length by omega,List.take_length]
 rw [e]
 have:β ^ (ds.length - 1)*1<=β ^ (ds.length - 1)*ds[ds.length - 1]:=Nat.mul_le_mul_left _ (by omega)
 omega
theorem xI.zero_iff {β:Nat} {ds:List Nat} (hβ:0<β) (h:xI β ds):val β ds=0↔ds=[]:=by
 constructor
 rotate_left
 . rintro rfl;rfl
 intro e
 by_cases b:ds=[]
 . exact b
 have:=h.ge b
 have:=Nat.pow_pos (n:=ds.length - 1) hβ
 omega
theorem xI.lt_of_length {β:Nat} {a b:List Nat} (hβ:0<β) (ha:zP β a) (hb:xI β b) (h:a.length<b.length):val β a<val β b:=by
 have j:=Yx ha
 have l:=hb.ge (by intro e;subst e;simp at h)
 have m:β ^ a.length<=β ^ (b.length - 1):=Nat.pow_le_pow_right hβ (by omega)
 omega
theorem xI.length_le {β:Nat} {a b:List Nat} (hβ:0<β) (ha:xI β a) (hb:xI β b) (h:val β a<=val β b):a.length<=b.length:=by
 rcases uL b.length a.length with e | e
 . have:=xI.lt_of_length hβ hb.1 ha e;omega
 . exact e
theorem xI.length_lt_pow {β:Nat} {a:List Nat} {k:Nat} (hβ:1<β) (ha:xI β a) (h:val β a<β ^ k):a.length<=k:=by
 rcases uL k a.length with b | b
 . have j:=ha.ge (by intro e;subst e;simp at b)
   have l:β ^ k<=β ^ (a.length - 1):=Nat.pow_le_pow_right (by omega) (by omega)
   omega
 . exact b
theorem ztf {β:Nat} {a b:List Nat} (hl:a.length=b.length) (ha:zP β a) (hb:zP β b) (h:val β a=val β b):a=b:=by
 induction a generalizing b with
 | nil=>exact (uI hl.symm).symm
 | cons d a ih=>
   cases b with
   | nil=>simp at hl
   | cons c b=>
     rw [YQ,YQ] at h;have m:=ha.head;have j:=hb.head
     have e:d=c:=by
      have l:(d+β*val β a) % β=d:=by rw [Nat.add_mul_mod_self_left,Nat.mod_eq_of_lt m]
      have r:(c+β*val β b) % β=c:=by rw [Nat.add_mul_mod_self_left,Nat.mod_eq_of_lt j]
      rw [<- l, <- r,h]
     subst e
     have u:val β a=val β b:=by
      have:β*val β a=β*val β b:=by omega
      exact Nat.eq_of_mul_eq_mul_left (by omega) this
     rw [ih (by simpa using hl) ha.tail hb.tail u]
theorem xI.inj {β:Nat} {a b:List Nat} (hβ:0<β) (ha:xI β a) (hb:xI β b) (h:val β a=val β b):a=b:=
 ztf (Nat.le_antisymm (ha.length_le hβ hb (by omega)) (hb.length_le hβ ha (by omega))) ha.1 hb.1 h
theorem zg6 {β:Nat} {a b:List Nat} (hl:a.length=b.length) (ha:zP β a) (k:Nat) (hk:k<a.length)
 (hsame:∀ j (m:j<a.length) (e:j<b.length),k<j->a[j]=b[j]) (hlt:a[k]<b[k]'(by omega)):val β a<val β b:=by
 have l:=x8 β a k (by omega)
 have u:=x8 β b k (by omega)
 rw [YB β a k hk] at l
 rw [YB β b k (by omega)] at u
 have r:a.drop (k+1)=b.drop (k+1):=by
  apply List.ext_getElem (by simp [hl])
  intro i m e
  rw [List.getElem_drop,List.getElem_drop]
  exact hsame _ _ _ (by omega)
 rw [r] at l
 have m:val β (a.take k)<β ^ k:=by
  have:=Yx (ha.take k)
  rwa [List.length_take,Nat.min_eq_left (by omega)] at this
 have e:β ^ k*(a[k]+β*val β (b.drop (k+1))+1)<=β ^ k*(b[k]'(by omega)+β*val β (b.drop (k+1))):=Nat.mul_le_mul_left _ (by omega)
 rw [Nat.mul_add _ _ 1,Nat.mul_one] at e
 omega
def digs (β:Nat) (n:Nat):List Nat:=if _h:β<=1\/n=0 then [] else (n % β) :: digs β (n / β)
termination_by n
decreasing_by exact Nat.div_lt_self (by omega) (by omega)
theorem Xg (β:Nat):digs β 0=[]:=by rw [digs];simp
theorem YS {β n:Nat} (hβ:1<β) (hn:0<n):digs β n=(n % β) :: digs β (n / β):=by rw [digs];rw [dif_neg (by omega)]
theorem ZR {β:Nat} (hβ:1<β) (n:Nat):xI β (digs β n)/\val β (digs β n)=n:=by
 induction n using Nat.strongRecOn with
 | _ n ih=>
   by_cases j:n=0
   . subst j;rw [Xg];exact ⟨xI.nil β,rfl⟩
   rw [YS hβ (by omega)]
   obtain ⟨e,b⟩:=ih (n / β) (Nat.div_lt_self (by omega) hβ);refine ⟨⟨zP.cons (Nat.mod_lt _ (by omega)) e.1,?_⟩,?_⟩
   rotate_left
   . rw [YQ,b,Nat.mod_add_div]
   by_cases hd:digs β (n / β)=[]
   rotate_left
   . rw [List.getLast?_cons_of_ne_nil hd]
     exact e.2
   rw [hd] at b |-
   have m:n / β=0:=b.symm
   have l:n<β:=by
    rcases uL n β with h | h
    . exact h
    . have:=Nat.div_pos h (by omega);omega
   rw [Nat.mod_eq_of_lt l]
   simpa using j
theorem xI.digs {β:Nat} {ds:List Nat} (hβ:1<β) (h:xI β ds):digs β (val β ds)=ds:=
 xI.inj (by omega) (ZR hβ _).1 h (ZR hβ _).2
def len (β n:Nat):Nat:=(digs β n).length
theorem xI.length_eq {β:Nat} {ds:List Nat} (hβ:1<β) (h:xI β ds):ds.length=len β (val β ds):=by rw [len,h.digs hβ]
theorem vP {β:Nat} (hβ:1<β) (n:Nat):n<β ^ len β n:=by
 have h:=ZR hβ n
 have:=Yx h.1.1
 rwa [h.2] at this
theorem xo {β n k:Nat} (hβ:1<β) (h:n<β ^ k):len β n<=k:=by
 have b:=ZR hβ n
 exact b.1.length_lt_pow hβ (by rw [b.2];exact h)
theorem Yk {β m n:Nat} (hβ:1<β) (h:m<=n):len β m<=len β n:=xo hβ (Nat.lt_of_le_of_lt h (vP hβ n))
theorem zok {β:Nat} (hβ:1<β) (m n:Nat):len β (m*n)<=len β m+len β n:=by
 apply xo hβ
 rw [Nat.pow_add]
 exact Nat.mul_lt_mul'' (vP hβ m) (vP hβ n)
theorem zub {β:Nat} (hβ:1<β) (m n:Nat):len β (m+n)<=max (len β m) (len β n)+1:=by
 apply xo hβ
 rw [Nat.pow_succ]
 have j:=vP hβ m
 have b:=vP hβ n
 have r:β ^ len β m<=β ^ max (len β m) (len β n):=Nat.pow_le_pow_right (by omega) (by omega)
 have e:β ^ len β n<=β ^ max (len β m) (len β n):=Nat.pow_le_pow_right (by omega) (by omega)
 have l:β ^ max (len β m) (len β n)*2<=β ^ max (len β m) (len β n)*β:=Nat.mul_le_mul_left _ hβ
 omega
theorem zuq {β n:Nat} (hβ:1<β) (h:0<n):0<len β n:=by rw [len,YS hβ h];simp
theorem zlb {β v1 v2 u2 top d r p ul vl u v:Nat} (ht:top=d*v1+r) (hu:u=(top*β+u2)*p+ul) (hv:v=(v1*β+v2)*p+vl) (hul:ul<p) (hlt:u<β*v)
 (h:β<=d\/r*β+u2<d*v2):u / v<d:=by
 have b:0<v:=by
  rcases uN v with e | e
  . rw [e] at hlt;simp at hlt
  . exact e
 rcases h with h | h
 . have:=(Nat.div_lt_iff_lt_mul b).2 hlt
   omega
 . rw [Nat.div_lt_iff_lt_mul b]
   have j:top*β+u2+1<=d*(v1*β+v2):=by
    rw [ht,Nat.add_mul,Nat.mul_add,Nat.mul_assoc];omega
   have l:(top*β+u2+1)*p<=d*(v1*β+v2)*p:=Nat.mul_le_mul_right _ j;rw [Nat.add_mul _ 1 p,Nat.one_mul] at l;have m:d*v=d*(v1*β+v2)*p+d*vl:=by rw [hv,Nat.mul_add,Nat.mul_assoc]
   rw [m,hu]
   omega
theorem zp3 {β v1 v2 u2 top d r p ul vl u v:Nat} (ht:top=d*v1+r) (hu:u=(top*β+u2)*p+ul) (hv:v=(v1*β+v2)*p+vl) (hvl:vl<p) (hlt:u<β*v)
 (hv1:1<=v1) (h:d*v2<=r*β+u2):d<=u / v+1:=by
 have b:0<v:=by
  rcases uN v with e | e
  . rw [e] at hlt;simp at hlt
  . exact e
 have z:u / v<β:=(Nat.div_lt_iff_lt_mul b).2 hlt
 rcases uL (u / v+1) d with hd | hd
 . exfalso
   have l:d*(v1*β+v2)<=top*β+u2:=by
    rw [ht,Nat.add_mul,Nat.mul_add,Nat.mul_assoc];omega
   have C:d*(v1*β+v2)*p<=(top*β+u2)*p:=Nat.mul_le_mul_right _ l
   have E:u<(u / v+1)*v:=by
    have:=Nat.div_add_mod u v;have:=Nat.mod_lt u b;rw [Nat.add_mul,Nat.one_mul,uH]
    omega
   have D:(u / v+1)*v<=(u / v+1)*((v1*β+v2+1)*p):=by
    apply Nat.mul_le_mul_left
    rw [hv,Nat.add_mul _ 1 p,Nat.one_mul];omega
   have y:d*(v1*β+v2)*p<(u / v+1)*(v1*β+v2+1)*p:=by
    rw [Nat.mul_assoc (u / v+1)];omega
   have j:d*(v1*β+v2)<(u / v+1)*(v1*β+v2+1):=Nat.lt_of_mul_lt_mul_right y;have m:(u / v+1+1)*(v1*β+v2)<=d*(v1*β+v2):=Nat.mul_le_mul_right _ (by omega);rw [Nat.add_mul (u / v+1) 1,Nat.one_mul] at m;rw [Nat.mul_add (u / v+1) _ 1,Nat.mul_one] at j;have B:1*β<=v1*β:=Nat.mul_le_mul_right _ hv1
   omega
 . exact hd
theorem ziw {β v1 um un d r:Nat} (hv1:β<=2*v1) (hum:um<=v1) (hun:un<β) (hd:um*β+un=d*v1+r) (hr:r<v1):d<=β+1:=by
 rcases uL (β+1) d with h | h
 . exfalso
   have b:(β+2)*v1<=d*v1:=Nat.mul_le_mul_right _ (by omega);have e:um*β<=v1*β:=Nat.mul_le_mul_right _ hum;rw [Nat.add_mul,uH β v1] at b
   omega
 . exact h
theorem ziv {β v2 u2 d r:Nat} (hv2:v2<β) (hd:d<=β) (hr:β<=r):d*v2<=r*β+u2:=by
 have b:d*v2<=β*v2:=Nat.mul_le_mul_right _ hd
 have e:β*v2<=β*β:=Nat.mul_le_mul_left _ (by omega)
 have j:β*β<=r*β:=Nat.mul_le_mul_right _ hr
 omega
theorem zdy {u v d u' B:Nat} (hd1:u / v<=d) (hd2:d<=u / v+1) (hv:0<v) (h:u' +d*v=u+0*B):d=u / v/\u' =u % v:=by
 have j:=Nat.div_add_mod u v
 have l:=Nat.mod_lt u hv
 rw [Nat.zero_mul,Nat.add_zero] at h
 have e:d=u / v:=by
  rcases uL (u / v) d with b | b
  . have e:d=u / v+1:=by omega
    rw [e,Nat.add_mul,Nat.one_mul,uH] at h
    omega
  . omega
 refine ⟨e,?_⟩
 rw [e,uH] at h
 omega
theorem zgv {u v d u' B:Nat} (hd1:u / v<=d) (hd2:d<=u / v+1) (hv:0<v) (hB:u' <B) (h:u' +d*v=u+1*B):d=u / v+1/\u' +v=u % v+B:=by
 have j:=Nat.div_add_mod u v
 have l:=Nat.mod_lt u hv
 rw [Nat.one_mul] at h
 have e:d=u / v+1:=by
  rcases uL (u / v) d with b | b
  . omega
  . have e:d=u / v:=by omega
    rw [e,uH] at h
    omega
 refine ⟨e,?_⟩
 rw [e,Nat.add_mul,Nat.one_mul,uH] at h
 omega
theorem zqm {β lo un cy bo d x y s bo' P:Nat} (hβ:0<β) (hs:s+y+bo=x+bo' *β) (hy:y=(cy+d*un) % β) {L O:Nat} (hL:L+d*lo=O+(cy+bo)*P):
 (L+P*s)+d*(lo+P*un)=(O+P*x)+((cy+d*un) / β+bo')*(P*β):=by
 have b:=Nat.div_add_mod (cy+d*un) β
 rw [<- hy] at b
 have e:P*(s+y+bo)=P*(x+bo' *β):=by rw [hs]
 have j:P*(cy+d*un)=P*(β*((cy+d*un) / β)+y):=by rw [b]
 generalize (cy+d*un) / β=q at*
 simp only [Nat.mul_add,Nat.add_mul,Nat.mul_assoc,uH,Nat.mul_left_comm] at e j hL |-
 omega
theorem zji {β v1 v2 u2 top p ul vl u v:Nat} (hu:u=(top*β+u2)*p+ul) (hv:v=(v1*β+v2)*p+vl) (hu2:u2<β) (hul:ul<p) (hv1:0<v1):u / v<=top / v1:=by
 rw [Nat.le_div_iff_mul_le hv1]
 have l:u<(top+1)*(β*p):=by
  have b:(top*β+u2+1)*p<=(top+1)*β*p:=Nat.mul_le_mul_right _ (by rw [Nat.add_mul,Nat.one_mul];omega)
  rw [Nat.add_mul _ 1,Nat.one_mul] at b
  rw [hu, <- Nat.mul_assoc];omega
 have m:u / v*v<=u:=Nat.div_mul_le_self u v
 have j:u / v*(v1*(β*p))<=u / v*v:=by
  apply Nat.mul_le_mul_left
  rw [hv,Nat.add_mul,Nat.mul_assoc];omega
 have e:u / v*v1*(β*p)<(top+1)*(β*p):=by rw [Nat.mul_assoc];omega
 have:=Nat.lt_of_mul_lt_mul_right e
 omega
theorem zqd {β v1 v2 um un u2 p ul vl u v:Nat} (hu:u=((um*β+un)*β+u2)*p+ul) (hv:v=(v1*β+v2)*p+vl) (hv2:v2<β) (hvl:vl<p) (hlt:u<β*v):um<=v1:=by
 rcases uL v1 um with h | h
 . exfalso
   have m:v<(v1+1)*(β*p):=by
    have b:(v1*β+v2+1)*p<=(v1+1)*β*p:=Nat.mul_le_mul_right _ (by rw [Nat.add_mul,Nat.one_mul];omega);rw [Nat.add_mul _ 1,Nat.one_mul] at b;rw [hv, <- Nat.mul_assoc];omega
   have y:(v1+1)*(β*p)<=um*(β*p):=Nat.mul_le_mul_right _ h;have l:β*v<=β*(um*(β*p)):=Nat.mul_le_mul_left _ (by omega)
   have r:β*(um*(β*p))<=u:=by
    have e:β*(um*(β*p))=um*β*β*p:=by simp only [Nat.mul_assoc,uH,Nat.mul_left_comm]
    have j:um*β*β*p<=((um*β+un)*β+u2)*p:=Nat.mul_le_mul_right _ (by rw [Nat.add_mul];omega);rw [e,hu];omega
   omega
 . exact h
theorem zC {ds:List Nat} {k:Nat} (hk:k<ds.length):ds.getD k 0=ds[k]:=by
 rw [List.getD_eq_getElem?_getD,List.getElem?_eq_getElem hk];rfl
theorem Xn {ds:List Nat} {k:Nat} (hk:ds.length<=k):ds.getD k 0=0:=by
 rw [List.getD_eq_getElem?_getD,List.getElem?_eq_none hk];rfl
theorem zM (β:Nat) (ds:List Nat) (k:Nat):val β (ds.take (k+1))=val β (ds.take k)+β ^ k*ds.getD k 0:=by
 rcases uL k ds.length with h | h
 . rw [zC h,yQ β ds k h]
 . rw [Xn h,uJ (by omega),uJ h];simp
theorem zmr (β:Nat) (ds:List Nat) (k d:Nat) (hk:k<ds.length):val β (ds.set k d)+β ^ k*ds[k]=val β ds+β ^ k*d:=by
 have e:=x8 β ds k (by omega)
 have b:=x8 β (ds.set k d) k (by simp;omega)
 rw [YB β ds k hk] at e
 rw [YB β (ds.set k d) k (by simpa using hk)] at b
 have j:(ds.set k d).take k=ds.take k:=by rw [List.take_set_of_le (by omega)]
 have l:(ds.set k d).drop (k+1)=ds.drop (k+1):=by rw [List.drop_set_of_lt (by omega)]
 rw [j,l] at b
 simp only [List.getElem_set_self] at b
 rw [e,b,Nat.mul_add,Nat.mul_add];omega
theorem zkh {β i D A B c x y:Nat} (h:D+c*β ^ i=A+B):(D+β ^ i*((c+x+y) % β))+(c+x+y) / β*β ^ (i+1)=(A+β ^ i*x)+(B+β ^ i*y):=by
 have b:=Nat.div_add_mod (c+x+y) β
 have e:β ^ i*(c+x+y)=β ^ i*(β*((c+x+y) / β)+(c+x+y) % β):=by rw [b]
 generalize (c+x+y) / β=q at*
 generalize (c+x+y) % β=r at*
 rw [Nat.pow_succ]
 simp only [Nat.mul_add,Nat.add_mul,Nat.mul_assoc,uH,Nat.mul_left_comm] at e h |-
 omega
theorem zmx {β i D A B b x y s b' :Nat} (h:D+B=A+b*β ^ i) (hs:s+y+b=x+b' *β):(D+β ^ i*s)+(B+β ^ i*y)=(A+β ^ i*x)+b' *β ^ (i+1):=by
 have e:β ^ i*(s+y+b)=β ^ i*(x+b' *β):=by rw [hs]
 rw [Nat.pow_succ]
 simp only [Nat.mul_add,Nat.add_mul,Nat.mul_assoc,uH,Nat.mul_left_comm] at e h |-
 omega
theorem zql {β P k O O' c x y o Y Z:Nat} (h:O+c*(P*β ^ k)=Z+x*P*Y) (hs:O' +P*β ^ k*o=O+P*β ^ k*((c+x*y+o) % β)):
 O' +(c+x*y+o) / β*(P*β ^ (k+1))=Z+x*P*(Y+β ^ k*y):=by
 have b:=Nat.div_add_mod (c+x*y+o) β
 have e:P*β ^ k*(c+x*y+o)=P*β ^ k*(β*((c+x*y+o) / β)+(c+x*y+o) % β):=by rw [b]
 generalize (c+x*y+o) / β=q at*
 generalize (c+x*y+o) % β=r at*
 rw [Nat.pow_succ]
 simp only [Nat.mul_add,Nat.add_mul,Nat.mul_assoc,uH,Nat.mul_left_comm] at e h hs |-
 omega
theorem zng {β c x y o:Nat} (hc:c<β) (hx:x<β) (hy:y<β) (ho:o<β):c+x*y+o<β*β:=by
 have b:x*y<=(β - 1)*(β - 1):=Nat.mul_le_mul (by omega) (by omega)
 obtain ⟨g,rfl⟩:∃ g,β=g+1:=⟨β - 1,by omega⟩
 simp only [Nat.add_sub_cancel] at b
 rw [Nat.add_mul,Nat.mul_add]
 omega
theorem zka {β d x r:Nat} (hd:0<d) (hr:r<d) (hx:x<β):(r*β+x) / d<β/\(r*β+x) % d<d:=by
 refine ⟨(Nat.div_lt_iff_lt_mul hd).2 ?_,Nat.mod_lt _ hd⟩
 have:(r+1)*β<=d*β:=Nat.mul_le_mul_right _ (by omega)
 rw [Nat.add_mul,Nat.one_mul] at this
 rw [uH β d]
 omega
theorem zu1 {β d x r Q A:Nat} (h:A=Q*d+r):x+β*A=((r*β+x) / d+β*Q)*d+(r*β+x) % d:=by
 have b:=Nat.div_add_mod (r*β+x) d
 have e:(r*β+x) / d*d+(r*β+x) % d=r*β+x:=by rw [uH];exact b
 rw [h,Nat.add_mul]
 simp only [Nat.mul_add,Nat.add_mul,Nat.mul_assoc,uH,Nat.mul_left_comm] at e |-
 omega
theorem zax (β:Nat) (ds:List Nat) (k d:Nat) (hk:k<ds.length):val β ((ds.set k d).drop k)=d+β*val β (ds.drop (k+1)):=by
 rw [YB β (ds.set k d) k (by simpa using hk),List.drop_set_of_lt (by omega)]
 simp only [List.getElem_set_self]
theorem zu3 {β s i D A x:Nat} {o:Nat} (h:D+β ^ i*o=A*s):(D+β ^ i*(o+x*s % β))+β ^ (i+1)*(x*s / β)=(A+β ^ i*x)*s:=by
 have b:=Nat.div_add_mod (x*s) β
 have e:β ^ i*(x*s)=β ^ i*(β*(x*s / β)+x*s % β):=by rw [b]
 generalize x*s / β=q at*
 generalize x*s % β=r at*
 rw [Nat.pow_succ,Nat.add_mul]
 simp only [Nat.mul_add,Nat.add_mul,Nat.mul_assoc,uH,Nat.mul_left_comm] at e h |-
 omega
theorem zh6 {n a b:Nat} (hb:b<2 ^ n):(2 ^ n*a) ||| b=2 ^ n*a+b:=(Nat.two_pow_add_eq_or_of_lt hb a).symm
theorem VZ {n a b:Nat} (hb:b<2 ^ n):b ||| (2 ^ n*a)=b+2 ^ n*a:=by rw [Nat.or_comm,zh6 hb,Nat.add_comm]
theorem zi7 {s t x:Nat} (hs:0<s):x*s % (s*t)=s*(x % t):=by rw [uH x s,Nat.mul_mod_mul_left]
theorem zob {s t i A x:Nat} (hs:0<s) (ht:0<t):(A+(s*t) ^ (i+1)*x) / s=A / s+(s*t) ^ i*(t*x):=by
 have e:(s*t) ^ (i+1)*x=s*((s*t) ^ i*(t*x)):=by
  rw [Nat.pow_succ];simp only [Nat.mul_assoc,uH,Nat.mul_left_comm]
 rw [e,Nat.add_mul_div_left _ _ hs]
theorem zmb {s t x:Nat} (ht:0<t):t*x=t*(x % s)+s*t*(x / s):=by
 conv=>lhs;rw [<- Nat.mod_add_div x s]
 rw [Nat.mul_add]
 simp only [Nat.mul_assoc,uH,Nat.mul_left_comm]
def chr (d:Nat):UInt8:=UInt8.ofNat (48+d)
def dig (c:UInt8):Nat:=c.toNat - 48
def xO (c:UInt8):Bool:=decide (48<=c.toNat) && decide (c.toNat<=57)
def Z4 (l:List UInt8):Bool:=l.all xO && !l.isEmpty
def zQ (l:List UInt8):Nat:=l.foldl (fun n c=>10*n+dig c) 0
def dec (n:Nat):List UInt8:=if n=0 then [48] else (digs 10 n).reverse.map chr
theorem zu6 {d:Nat} (h:d<10):dig (chr d)=d:=by
 unfold dig chr
 rw [UInt8.toNat_ofNat']
 have:(48+d) % 2 ^ 8=48+d:=Nat.mod_eq_of_lt (by omega)
 omega
theorem znq {d:Nat} (h:d<10):xO (chr d)=true:=by
 unfold xO chr
 rw [UInt8.toNat_ofNat']
 have:(48+d) % 2 ^ 8=48+d:=Nat.mod_eq_of_lt (by omega)
 simp [this];omega
theorem zfx {c:UInt8} (h:xO c=true):chr (dig c)=c:=by
 simp [xO] at h
 unfold chr dig
 apply UInt8.toNat_inj.1
 rw [UInt8.toNat_ofNat']
 have:c.toNat<2 ^ 8:=UInt8.toNat_lt c
 have:(48+(c.toNat - 48)) % 2 ^ 8=48+(c.toNat - 48):=Nat.mod_eq_of_lt (by omega)
 omega
theorem zs7 {c:UInt8} (h:xO c=true):dig c<10:=by
 simp [xO] at h;unfold dig;omega
theorem zg3 {d:Nat} (h:d<10):(chr d).toNat=48+d:=by
 unfold chr;rw [UInt8.toNat_ofNat'];exact Nat.mod_eq_of_lt (by omega)
theorem zay (l:List UInt8):∀ n:Nat,l.foldl (fun n c=>10*n+dig c) n=n*10 ^ l.length+zQ l:=by
 induction l with
 | nil=>intro n;simp [zQ]
 | cons c l ih=>
   intro n
   have e:zQ (c :: l)=(10*0+dig c)*10 ^ l.length+zQ l:=by
    show List.foldl (fun n c=>10*n+dig c) (10*0+dig c) l=_
    exact ih _
   rw [List.foldl_cons,ih,e,List.length_cons,Nat.pow_succ];simp only [Nat.mul_add,Nat.add_mul,Nat.mul_assoc,uH,Nat.mul_left_comm,Nat.mul_zero,Nat.zero_add]
   omega
theorem Vv (a b:List UInt8):zQ (a ++ b)=zQ a*10 ^ b.length+zQ b:=by
 rw [zQ,List.foldl_append,zay b];rfl
theorem zij (a:List UInt8) (c:UInt8):zQ (a ++ [c])=10*zQ a+dig c:=by
 rw [Vv];simp [zQ];omega
theorem zda (c:UInt8) (l:List UInt8):zQ (c :: l)=dig c*10 ^ l.length+zQ l:=by
 rw [zQ,List.foldl_cons,zay];simp
theorem YT (l:List UInt8):zQ l=val 10 (l.reverse.map dig):=by
 induction l with
 | nil=>rfl
 | cons c l ih=>rw [zda,List.reverse_cons,List.map_append,ZJ,ih];simp [val];rw [uH];omega
theorem zcs {l:List UInt8} (h:l.all xO=true):zQ l<10 ^ l.length:=by
 rw [YT]
 have b:zP 10 (l.reverse.map dig):=by
  intro d hd
  simp at hd
  obtain ⟨c,e,rfl⟩:=hd
  exact zs7 (List.all_eq_true.1 h c e)
 simpa using Yx b
theorem zek (n:Nat):zP 10 (digs 10 n):=(ZR (by omega) n).1.1
theorem zde (n:Nat):(dec n).all xO=true:=by
 unfold dec
 split
 . rfl
 rw [List.all_eq_true]
 intro c b;simp only [List.mem_map,List.mem_reverse] at b;obtain ⟨d,hd,rfl⟩:=b;exact znq (zek n d hd)
theorem zvy (n:Nat):dec n≠[]:=by
 unfold dec
 split
 . simp
 rename_i h
 rw [YS (by omega) (by omega)];simp
theorem zep (n:Nat):Z4 (dec n)=true:=by
 unfold Z4;rw [zde];simp [zvy]
theorem Zo (n:Nat):zQ (dec n)=n:=by
 unfold dec
 split
 . rename_i h;subst h;decide
 rw [YT, <- List.map_reverse,List.reverse_reverse,List.map_map]
 have e:(digs 10 n).map (dig ∘ chr)=digs 10 n:=by
  have:∀ l:List Nat,zP 10 l->l.map (dig ∘ chr)=l:=by
   intro l
   induction l with
   | nil=>intro _;rfl
   | cons d l ih=>intro h;rw [List.map_cons,ih h.tail];simp [zu6 h.head]
  exact this _ (zek n)
 rw [e];exact (ZR (by omega) n).2
theorem zix {m n:Nat} (h:dec m=dec n):m=n:=by rw [<- Zo m,h,Zo]
theorem v8:dec 0=[48]:=by simp [dec]
theorem zq0 (n:Nat) (hn:n≠0):∀ c,(dec n).head?=some c->c≠48:=by
 intro c b
 unfold dec at b
 rw [if_neg hn,List.head?_map,List.head?_reverse] at b
 have j:=ZR (β:=10) (by omega) n
 cases hl:(digs 10 n).getLast? with
 | none=>rw [hl] at b;cases b
 | some d=>
   rw [hl] at b;simp at b;subst b;have l:d<10:=j.1.1 d (List.mem_of_getLast? hl);have m:d≠0:=fun e=>j.1.2 (by rw [hl,e])
   intro e;have:=congrArg UInt8.toNat e;rw [zg3 l] at this;simp at this
   omega
theorem zk9 {l:List UInt8} (h:Z4 l=true) (b:l.head?≠some 48\/l.length=1):dec (zQ l)=l:=by
 simp [Z4] at h
 obtain ⟨r,z⟩:=h
 have C:zP 10 (l.reverse.map dig):=by
  intro d hd
  simp at hd
  obtain ⟨c,m,rfl⟩:=hd
  exact zs7 (r c m)
 have B:∀ l:List UInt8,(∀ c∈l,xO c=true)->l.map (chr ∘ dig)=l:=by
  intro l
  induction l with
  | nil=>intro _;rfl
  | cons c l ih=>intro h;rw [List.map_cons,ih (fun c m=>h c (List.mem_cons_of_mem _ m))];simp [zfx (h c uP)]
 by_cases u:zQ l=0
 rotate_left
 . have m:xI 10 (l.reverse.map dig):=by
    refine ⟨C,?_⟩;rw [List.getLast?_map,List.getLast?_reverse]
    cases l with
    | nil=>exact absurd rfl z
    | cons c l=>
      simp only [List.head?_cons,Option.map_some];intro e;injection e with e
      have j:=zfx (r c uP);rw [e] at j
      rcases b with b | b
      . apply b;rw [<- j];rfl
      . have:l=[]:=uI (by simpa using b)
        subst this
        apply u
        simp [zQ,e]
   unfold dec;rw [if_neg u,YT,m.digs (by omega), <- List.map_reverse,List.reverse_reverse,List.map_map,B l r]
 unfold dec
 rw [if_pos u]
 rcases b with b | b
 . exfalso
   cases l with
   | nil=>exact z rfl
   | cons c l=>
     simp at b;rw [zda] at u;have m:=r c uP
     have y:dig c=0:=by
      rcases uN (dig c) with e | e
      . exact e
      . have:=Nat.mul_pos e (Nat.pow_pos (n:=l.length) (show 0<10 by omega));omega
     have j:=zfx m;rw [y] at j;exact b j.symm
 . match l,b with
   | [c],_=>
     have y:dig c=0:=by simpa [zQ] using u
     have j:=zfx (r c uP);rw [y] at j;rw [<- j];rfl
theorem zez (n:Nat) (hn:n≠0):(dec n).length=len 10 n:=by unfold dec;rw [if_neg hn];simp [len]
theorem Vx {n k:Nat} (h:n<10 ^ k) (hk:0<k):(dec n).length<=k:=by
 by_cases b:n=0
 . subst b;rw [v8];exact hk
 rw [zez n b];exact xo (by omega) h
theorem Zz {n k:Nat} (h:(dec n).length<=k):n<10 ^ k:=by
 have b:=zcs (zde n)
 rw [Zo] at b
 exact uK b (Nat.pow_le_pow_right (by omega) h)
theorem Yw {β n:Nat} (hβ:10<=β):len β n<=(dec n).length:=by
 apply xo (by omega)
 exact uK (Zz (uA)) (Nat.pow_le_pow_left hβ _)
theorem zoq {n m:Nat} {b:List Nat} (h:b ++ digs 10 m=digs 10 n) (hm:0<m):(b ++ [m % 10]) ++ digs 10 (m / 10)=digs 10 n:=by
 rw [<- h,YS (by omega) hm];simp
def ya (q:Rat):List UInt8:=(if q.num<0 then [45] else []) ++ dec q.num.natAbs ++ (if q.den=1 then [] else 47 :: dec q.den)
def yz (M:Nat) (q:Rat):Prop:=(dec q.num.natAbs).length<=M/\(dec q.den).length<=M
instance (M:Nat) (q:Rat):Decidable (yz M q):=inferInstanceAs (Decidable (_/\_))
def zky (l:List UInt8) (q:Rat):Prop:=l=ya q/\yz 50000 q
def xj (l:List UInt8):Bool:=l.head? == some 45
def zq (l:List UInt8):List UInt8:=if xj l then l.tail else l
def ahead (c:UInt8) (l:List UInt8):List UInt8:=l.takeWhile (· != c)
def yo (c:UInt8) (l:List UInt8):List UInt8:=(l.dropWhile (· != c)).tail
def has (c:UInt8) (l:List UInt8):Bool:=l.contains c
def Yb (neg:Bool) (n d:Nat):Rat:=Rat.divInt (if neg then -(n:Int) else n) d
theorem YK {neg:Bool} {n d:Nat} (hc:Nat.Coprime n d) (hd:d≠0):(Yb neg n d).num=(if neg then -(n:Int) else n)/\(Yb neg n d).den=d:=by
 have b :Nat.Coprime (if neg then -(n:Int) else n).natAbs d:=by cases neg<;>simpa using hc
 have e:Yb neg n d=⟨if neg then -(n:Int) else n,d,hd,b⟩:=by rw [Rat.mk_eq_divInt];rfl
 rw [e];exact ⟨rfl,rfl⟩
theorem Xa {l:List UInt8} (h:l.all xO=true) {c:UInt8} (hc:xO c=false):∀ x∈l,(x != c)=true:=by
 intro x e
 have b:=List.all_eq_true.1 h x e
 rw [bne_iff_ne]
 rintro rfl
 rw [b] at hc;cases hc
theorem XY:xO 47=false:=by decide
theorem zis:xO 45=false:=by decide
theorem V7 {l t:List UInt8} {p:UInt8->Bool} (h:∀ x∈l,p x=true):(l ++ t).takeWhile p=l ++ t.takeWhile p:=by
 induction l with
 | nil=>rfl
 | cons c l ih=>simp [List.takeWhile_cons,h c uP,ih (fun x hx=>h x (List.mem_cons_of_mem _ hx))]
theorem zf1 {l t:List UInt8} {p:UInt8->Bool} (h:∀ x∈l,p x=true):(l ++ t).dropWhile p=t.dropWhile p:=by
 induction l with
 | nil=>rfl
 | cons c l ih=>simp [List.dropWhile_cons,h c uP,ih (fun x hx=>h x (List.mem_cons_of_mem _ hx))]
theorem zpd {c:UInt8} {l:List UInt8} (h:l.all xO=true) (hc:xO c=false) (t:List UInt8):ahead c (l ++ c :: t)=l:=by
 unfold ahead
 rw [V7 (Xa h hc)];simp [List.takeWhile_cons]
theorem zlg {c:UInt8} {l:List UInt8} (h:l.all xO=true) (hc:xO c=false) (t:List UInt8):yo c (l ++ c :: t)=t:=by
 unfold yo
 rw [zf1 (Xa h hc)];simp [List.dropWhile_cons]
theorem zt4 (c:UInt8) (l t:List UInt8):has c (l ++ c :: t)=true:=by unfold has;simp
theorem zad {c:UInt8} {l:List UInt8} (h:has c l=false):ahead c l=l:=by
 unfold has at h;unfold ahead
 have e :c ∉ l:=by simpa using h
 have:=V7 (l:=l) (t:=[]) (p:=(· != c)) (by
  intro a b
  rw [bne_iff_ne]
  rintro rfl
  exact e b)
 simpa using this
theorem zl2 {c:UInt8} {l:List UInt8} (h:l.all xO=true) (hc:xO c=false):has c l=false:=by
 unfold has
 rw [Bool.eq_false_iff]
 intro b
 have e:=List.contains_iff_mem.1 b
 have:=List.all_eq_true.1 h c e
 rw [this] at hc;cases hc
theorem zp0 {c:UInt8} {l:List UInt8} (h:has c l=true):l=ahead c l ++ c :: yo c l:=by
 unfold has at h;unfold ahead yo
 have b:c∈l:=List.contains_iff_mem.1 h
 have e:(l.dropWhile (· != c)).head?=some c:=by
  cases hd:l.dropWhile (· != c) with
  | nil=>
    have j:=List.takeWhile_append_dropWhile (p:=(· != c)) (l:=l);rw [hd,List.append_nil] at j;rw [<- j] at b;have:=List.all_eq_true.1 (List.all_takeWhile (p:=(· != c)) (l:=l)) c b;simp at this
  | cons a t=>
    have:=List.head?_dropWhile_not (· != c) l;rw [hd] at this;simp at this;rw [this];rfl
 cases hd:l.dropWhile (· != c) with
 | nil=>rw [hd] at e;cases e
 | cons a t=>
   rw [hd] at e;injection e with e
   subst e;have:=List.takeWhile_append_dropWhile (p:=(· != a)) (l:=l);rw [hd] at this;exact this.symm
theorem X0 {l:List UInt8} (h:xj l=false):zq l=l:=by unfold zq;rw [h];rfl
theorem zba {l:List UInt8} (h:xj l=true):l=45 :: zq l:=by
 unfold zq;rw [h]
 unfold xj at h
 cases l with
 | nil=>simp at h
 | cons c l=>simp at h;subst h;rfl
theorem zuy (l:List UInt8):l=(if xj l then [45] else []) ++ zq l:=by
 by_cases h:xj l=true
 . rw [if_pos h];exact zba h
 rw [if_neg h,X0 (by simpa using h)];rfl
theorem zf8 {l t:List UInt8} (h:Z4 l=true):xj (l ++ t)=false:=by
 simp [Z4] at h
 unfold xj
 cases l with
 | nil=>simp at h
 | cons c l=>
   have b:=h.1 c uP
   simp
   rintro rfl
   simp [zis] at b
theorem zr9 {l:List UInt8} {q:Rat} (h:l=ya q):xj l=decide (q.num<0)/\ahead 47 (zq l)=dec q.num.natAbs/\has 47 (zq l)=decide (q.den≠1)/\
 (q.den≠1->yo 47 (zq l)=dec q.den):=by
 have m:xj (dec q.num.natAbs ++ (if q.den=1 then [] else 47 :: dec q.den))=false:=zf8 (zep _)
 have e:xj l=decide (q.num<0):=by
  rw [h,ya,List.append_assoc]
  by_cases b:q.num<0
  . rw [if_pos b];simp [xj,b]
  rw [if_neg b,List.nil_append,m];simp [b]
 have hu:zq l=dec q.num.natAbs ++ (if q.den=1 then [] else 47 :: dec q.den):=by
  by_cases b:q.num<0
  rotate_left
  . rw [X0 (by rw [e];simpa using b),h,ya,if_neg b,List.nil_append]
  have:=zba (l:=l) (by rw [e];simpa using b)
  rw [h,ya,if_pos b] at this;simp only [List.cons_append,List.nil_append,List.cons.injEq,true_and] at this;rw [h,ya,if_pos b];simp only [List.cons_append,List.nil_append];rw [<- this]
 refine ⟨e,?_⟩
 rw [hu]
 by_cases hd:q.den=1
 . rw [if_pos hd,List.append_nil]
   have j:=zl2 (zde q.num.natAbs) XY;refine ⟨zad j,?_,fun h=>absurd hd h⟩;rw [j];simp [hd]
 rw [if_neg hd]
 exact ⟨zpd (zde _) XY _,by rw [zt4];simp [hd],fun _=>zlg (zde _) XY _⟩
def zX (l:List UInt8):Bool:=Z4 l && (l.head? != some 48 || l.length == 1) && decide (l.length<=50000)
theorem zhm {n:Nat} (h:(dec n).length<=50000):zX (dec n)=true:=by
 unfold zX
 rw [zep]
 by_cases b:n=0
 . subst b;rw [v8];decide
 have e:((dec n).head? != some 48)=true:=by
  rw [bne_iff_ne];intro j;exact zq0 n b 48 j rfl
 rw [e];simp [h]
theorem ZH {l:List UInt8} (h:zX l=true):dec (zQ l)=l/\l.length<=50000/\Z4 l=true:=by
 unfold zX at h
 simp only [Bool.and_eq_true,Bool.or_eq_true,bne_iff_ne,ne_eq,beq_iff_eq,decide_eq_true_eq] at h
 exact ⟨zk9 h.1.1 h.1.2,h.2,h.1.1⟩
theorem Vt {l:List UInt8} (hn:zX (ahead 47 (zq l))=true) (h0:xj l=true->ahead 47 (zq l)≠[48])
 (hd:has 47 (zq l)=true->zX (yo 47 (zq l))=true/\yo 47 (zq l)≠[48]/\yo 47 (zq l)≠[49]/\
   Nat.Coprime (zQ (ahead 47 (zq l))) (zQ (yo 47 (zq l)))):
 zky l (Yb (xj l) (zQ (ahead 47 (zq l))) (if has 47 (zq l) then zQ (yo 47 (zq l)) else 1)):=by
 obtain ⟨e,B,_⟩:=ZH hn
 have hl:=zuy l
 generalize N:xj l=s at*
 generalize hu:zq l=u at*
 have C:s=true->zQ (ahead 47 u)≠0:=by
  intro E h
  rw [h,v8] at e
  exact h0 E e.symm
 by_cases y:has 47 u=true
 rotate_left
 . rw [if_neg y]
   have K :has 47 u=false:=by simpa using y
   have z:=zad K;obtain ⟨r,m⟩:=YK (neg:=s) (n:=zQ (ahead 47 u)) (d:=1) (by simp) (by omega);have j:(Yb s (zQ (ahead 47 u)) 1).num.natAbs=zQ (ahead 47 u):=by rw [r];cases s<;>simp
   refine ⟨?_,by
    unfold yz;rw [m,j,e]
    exact ⟨B,by simp [dec,YS (β:=10) (n:=1) (by omega) (by omega),Xg]⟩⟩
   unfold ya;rw [m,j,e,r,hl,if_pos rfl,List.append_nil,z]
   congr 1
   cases s with
   | false=>rw [if_neg (by simp),if_neg (by simp)]
   | true=>rw [if_pos rfl,if_pos rfl,if_pos (by have:=C rfl;rw [z] at this;omega)]
 obtain ⟨J,D,F,M⟩:=hd y
 obtain ⟨b,L,_⟩:=ZH J
 have I:zQ (yo 47 u)≠0:=by
  intro h;rw [h,v8] at b;exact D b.symm
 have G:zQ (yo 47 u)≠1:=by
  intro h;rw [h] at b;exact F (by rw [<- b];simp [dec,YS (β:=10) (n:=1) (by omega) (by omega),Xg];decide)
 rw [if_pos y];obtain ⟨r,m⟩:=YK (neg:=s) M I;have j:(Yb s (zQ (ahead 47 u)) (zQ (yo 47 u))).num.natAbs=zQ (ahead 47 u):=by rw [r];cases s<;>simp
 refine ⟨?_,by unfold yz;rw [m,j,e,b];exact ⟨B,L⟩⟩;unfold ya;rw [m,j,e,b,if_neg G,r,hl];rw [List.append_assoc]
 congr 1
 rotate_left
 . exact zp0 y
 cases s with
 | false=>rw [if_neg (by simp),if_neg (by simp)]
 | true=>rw [if_pos rfl,if_pos rfl,if_pos (by have:=C rfl;omega)]
theorem zm0:dec 1=[49]:=by simp [dec,YS (β:=10) (n:=1) (by omega) (by omega),Xg];decide
theorem Zc {l:List UInt8} {q:Rat} (h:zky l q):
 zX (ahead 47 (zq l))=true/\(xj l=true->ahead 47 (zq l)≠[48])/\
 (has 47 (zq l)=true->zX (yo 47 (zq l))=true/\yo 47 (zq l)≠[48]/\yo 47 (zq l)≠[49]/\
   ahead 47 (zq l)≠[48]/\Nat.Coprime (zQ (ahead 47 (zq l))) (zQ (yo 47 (zq l))))/\
 q=Yb (xj l) (zQ (ahead 47 (zq l))) (if has 47 (zq l) then zQ (yo 47 (zq l)) else 1):=by
 obtain ⟨z,j,B,u⟩:=zr9 h.1
 have r:=h.2
 have C:dec q.num.natAbs=[48]->q.num=0:=by
  intro e
  have:q.num.natAbs=0:=zix (e.trans v8.symm)
  omega
 have y:q.num=if decide (q.num<0)=true then -(q.num.natAbs:Int) else q.num.natAbs:=by
  by_cases b:q.num<0
  . simp [b];omega
  simp [b];omega
 refine ⟨by rw [j];exact zhm r.1,?_,?_,?_⟩
 . rw [z,j]
   intro b e;have:=C e;simp at b
   omega
 . rw [B]
   intro hd;have m :q.den≠1:=by simpa using hd
   rw [j,u m,Zo,Zo];refine ⟨zhm r.2,?_,?_,?_,q.reduced⟩
   . intro e;exact q.den_nz (zix (e.trans v8.symm))
   . intro e;exact m (zix (e.trans zm0.symm))
   . intro e
     have b:=C e;have:=q.reduced;rw [b] at this;simp at this;exact m this
 . rw [z,j,B,Zo]
   by_cases hd:q.den=1
   rotate_left
   . have:decide (q.den≠1)=true:=by simp [hd]
     rw [this,if_pos rfl,u hd,Zo,Yb, <- y,Rat.num_divInt_den]
   have:decide (q.den≠1)=false:=by simp [hd]
   rw [this,if_neg (by simp),Yb, <- y]
   conv=>lhs;rw [<- Rat.num_divInt_den q,hd]
def zj (l:List UInt8):Option Rat:=
 let q:=Yb (xj l) (zQ (ahead 47 (zq l))) (if has 47 (zq l) then zQ (yo 47 (zq l)) else 1)
 if l=ya q/\yz 50000 q then some q else none
theorem yA {l:List UInt8} {q:Rat}:zj l=some q↔zky l q:=by
 unfold zj
 constructor
 rotate_left
 . intro h
   have e:=(Zc h).2.2.2
   simp only
   rw [<- e];exact if_pos h
 intro h
 simp only at h;generalize Yb (xj l) (zQ (ahead 47 (zq l))) (if has 47 (zq l) then zQ (yo 47 (zq l)) else 1)=r at h
 split at h
 . rename_i b;injection h with h;subst h;exact b
 cases h
theorem ZF {l:List UInt8}:zj l=none↔∀ q,¬ zky l q:=by
 constructor
 . intro h q b;rw [yA.2 b] at h;cases h
 intro h
 cases hr:zj l with
 | none=>rfl
 | some q=>exact absurd (yA.1 hr) (h q)
theorem ZB {q:Rat} (h:yz 50000 q):zj (ya q)=some q:=yA.2 ⟨rfl,h⟩
theorem zq2 {l:List UInt8} (h:zX (ahead 47 (zq l))=false):zj l=none:=by
 rw [ZF]
 intro q b
 have:=(Zc b).1
 rw [h] at this;cases this
theorem zry {l:List UInt8} (h:xj l=true) (h0:ahead 47 (zq l)=[48]):zj l=none:=by
 rw [ZF]
 intro q b
 exact (Zc b).2.1 h h0
theorem Zs {l:List UInt8} (h:has 47 (zq l)=true) (b:zX (yo 47 (zq l))=false\/yo 47 (zq l)=[48]\/yo 47 (zq l)=[49]\/ahead 47 (zq l)=[48]):zj l=none:=by
 rw [ZF]
 intro q j
 obtain ⟨e,m,u,r,_⟩:=(Zc j).2.2.1 h
 rcases b with b | b | b | b
 . rw [b] at e;cases e
 . exact m b
 . exact u b
 . exact r b
theorem Y9 (s:Bool) (n:Nat):(Yb s n 1).num=(if s then -(n:Int) else n)/\(Yb s n 1).den=1:=YK (by simp) (by omega)
theorem VM {l:List UInt8} (h:zX (ahead 47 (zq l))=true) (h0:xj l=true->ahead 47 (zq l)≠[48]) (hh:has 47 (zq l)=false):zj l=some (Yb (xj l) (zQ (ahead 47 (zq l))) 1):=by
 rw [yA]
 have:=Vt h h0 (by rw [hh];intro h;cases h)
 rw [hh] at this
 simpa using this
theorem zd9 {s:Bool} {n d:Nat} (hd:d≠0) (h:(Yb s n d).den=d):Nat.Coprime n d:=by
 unfold Yb at h
 rw [Rat.den_divInt,if_neg (by omega)] at h
 have u:(d:Int).gcd (if s then -(n:Int) else n)=Nat.gcd n d:=by
  cases s<;>simp [Int.gcd,Nat.gcd_comm]
 rw [u] at h
 have l:0<Nat.gcd n d:=Nat.gcd_pos_of_pos_right _ (by omega)
 have e:Nat.gcd n d ∣ d:=Nat.gcd_dvd_right n d
 obtain ⟨k,b⟩:=e
 have r:d / Nat.gcd n d=k:=by
  conv=>lhs;lhs;rw [b]
  exact Nat.mul_div_cancel_left _ l
 have j:(d:Int).natAbs=d:=Int.natAbs_natCast d
 rw [j,r] at h
 have m:Nat.gcd n d*d=1*d:=by rw [Nat.one_mul];conv=>lhs;rhs;rw [<- h]
                              exact b.symm
 exact Nat.eq_of_mul_eq_mul_right (by omega) m
theorem zhy {l:List UInt8} (h:zX (ahead 47 (zq l))=true) (h0:xj l=true->ahead 47 (zq l)≠[48]) (hh:has 47 (zq l)=true)
 (h1:zX (yo 47 (zq l))=true) (h2:yo 47 (zq l)≠[48]) (h3:yo 47 (zq l)≠[49]):
 zj l=if (Yb (xj l) (zQ (ahead 47 (zq l))) (zQ (yo 47 (zq l)))).den=zQ (yo 47 (zq l)) then some (Yb (xj l) (zQ (ahead 47 (zq l))) (zQ (yo 47 (zq l)))) else none:=by
 have b:zQ (yo 47 (zq l))≠0:=by
  intro e
  have:=(ZH h1).1
  rw [e,v8] at this
  exact h2 this.symm
 split
 . rename_i hd
   rw [yA];have:=Vt h h0 (fun _=>⟨h1,h2,h3,zd9 b hd⟩);rw [hh] at this
   simpa using this
 rename_i hd
 rw [ZF];intro q j
 apply hd
 exact (YK ((Zc j).2.2.1 hh).2.2.2.2 b).2
theorem Vr {l:List UInt8} (h1:zX l=true) (h2:l≠[48]):zQ l≠0:=by
 intro e
 have:=(ZH h1).1
 rw [e,v8] at this
 exact h2 this.symm
theorem VE {l:List UInt8} (h:zX l=true):len 4294967296 (zQ l)<=50000:=by
 obtain ⟨b,j,m⟩:=ZH h
 have e:=Yw (β:=4294967296) (n:=zQ l) (by omega)
 rw [b] at e
 omega
theorem ZX {l:List UInt8} (h:zX l=true):l.all xO=true/\l.length<=50000:=by
 obtain ⟨j,e,b⟩:=ZH h
 unfold Z4 at b
 rw [Bool.and_eq_true] at b
 exact ⟨b.1,e⟩
theorem yz.len {M:Nat} {q:Rat} (h:yz M q):Go.Proofs.YtobdoblpnanclaaGreatDoor.len 4294967296 q.num.natAbs<=M/\Go.Proofs.YtobdoblpnanclaaGreatDoor.len 4294967296 (q.den:Int).natAbs<=M:=
 ⟨uC (Yw (by omega)) h.1,by rw [Int.natAbs_natCast];exact uC (Yw (by omega)) h.2⟩
structure zk where
 den:Int
 cell:Nat->Nat->Int
 basic:Nat->Nat
 other:Nat->Nat
def zk.bare (T:zk) (r c:Nat):Nat->Nat->Int:=fun i k=>
 if i=r then (if k=c then T.den else -(T.cell r k)) else if k=c then T.cell i c else (T.cell i k*T.cell r c - T.cell i c*T.cell r k).tdiv T.den
def zk.pivot (T:zk) (r c:Nat):zk:=
 { den:=if T.cell r c<0 then -(T.cell r c) else T.cell r c,
      cell:=fun i k=>if T.cell r c<0 then -(T.bare r c i k) else T.bare r c i k,
      basic:=fun i=>if i=r then T.other (c - 1) else T.basic i,
      other:=fun k=>if k=c - 1 then T.basic r else T.other k }
def zk.enter (T:zk) (m:Nat) (but:Int):Nat->Nat
 | 0=>0
 | n+1=>if (T.other n:Int)≠but/\0<T.cell m (n+1)/\(T.enter m but n=0\/T.other n<T.other (T.enter m but n - 1)) then n+1 else T.enter m but n
def zk.ahead (T:zk) (room c i j:Nat):Prop:=
 T.cell i 0* -(T.cell j c)<T.cell j 0* -(T.cell i c)\/(T.cell i 0* -(T.cell j c)=T.cell j 0* -(T.cell i c)/\(T.basic i=room\/(T.basic j≠room/\T.basic i<T.basic j)))
instance (T:zk) (room c i j:Nat):Decidable (T.ahead room c i j):=by unfold zk.ahead;exact inferInstance
def zk.leave (T:zk) (room c:Nat):Nat->Option Nat
 | 0=>none
 | n+1=>if T.cell n c ≥ 0 then T.leave room c n else match T.leave room c n with
   | none=>some n
   | some j=>if T.ahead room c n j then some n else some j
def Fit (z:Int):Prop:=len 4294967296 z.natAbs<=8388608
structure zk.Fits (T:zk) (m L:Nat):Prop where
 den:0<T.den
 fden:Fit T.den
 cell:∀ i k,i<=m->k<L->Fit (T.cell i k)
inductive vU (m L room:Nat) (but:Int):zk->zk->Nat->Prop
 | top (T:zk) (h:T.enter m but (L - 1)=0):vU m L room but T T 0
 | free (T:zk) (c:Nat) (h0:0<c) (h:T.enter m but (L - 1)=c) (hl:T.leave room c m=none):vU m L room but T T c
 | step (T U:zk) (c d r:Nat) (h0:0<c) (h:T.enter m but (L - 1)=c) (hl:T.leave room c m=some r) (hf:(T.pivot r c).Fits m L) (hn:vU m L room but (T.pivot r c) U d):vU m L room but T U d
theorem zk.enter_le (T:zk) (m:Nat) (but:Int) (n:Nat):T.enter m but n<=n:=by
 induction n with
 | zero=>exact Nat.le_refl 0
 | succ n ih=>
   unfold zk.enter
   split
   . exact uA
   omega
theorem zk.leave_lt (T:zk) (room c:Nat):∀ (n j:Nat),T.leave room c n=some j->j<n/\T.cell j c<0
 | 0,j,h=>by cases h
 | n+1,j,h=>by
   unfold zk.leave at h
   split at h
   . have:=zk.leave_lt T room c n j h;exact ⟨by omega,this.2⟩
   rename_i l
   split at h
   . injection h with h;subst h;exact ⟨by omega,by omega⟩
   rename_i e b
   split at h
   . injection h with h;subst h;exact ⟨by omega,by omega⟩
   injection h with h;subst h
   have:=zk.leave_lt T room c n e b;exact ⟨by omega,this.2⟩
def Fits (lo hi:Int) (zs:List Int):Prop:=∀ z∈zs,lo<=z/\z<hi
def XJ (n:Nat) (f:Nat->Rat):Rat:=match n with
 | 0=>0
 | n+1=>XJ n f+f n
theorem VN (f:Nat->Rat):XJ 0 f=0:=rfl
theorem Zh (n:Nat) (f:Nat->Rat):XJ (n+1) f=XJ n f+f n:=rfl
theorem zdr {n:Nat} {f g:Nat->Rat} (h:∀ k,k<n->f k=g k):XJ n f=XJ n g:=by
 induction n with
 | zero=>rfl
 | succ n ih=>rw [Zh,Zh,ih (fun k hk=>h k (by omega)),h n (by omega)]
theorem zhr (n:Nat):XJ n (fun _=>0)=0:=by
 induction n with
 | zero=>rfl
 | succ n ih=>rw [Zh,ih];grind
theorem zpc (n:Nat) (f g:Nat->Rat):XJ n (fun k=>f k+g k)=XJ n f+XJ n g:=by
 induction n with
 | zero=>rw [VN,VN,VN];grind
 | succ n ih=>rw [Zh,Zh,Zh,ih];grind
theorem zdt {n:Nat} {f:Nat->Rat} {j:Nat} (hj:j<n) (h:∀ k,k<n->k≠j->f k=0):XJ n f=f j:=by
 induction n with
 | zero=>omega
 | succ n ih=>
   rw [Zh]
   rcases uL j n with b | b
   . rw [ih b (fun k hk hne=>h k (by omega) hne),h n (by omega) (by omega)];grind
   . obtain rfl:j=n:=by omega
     rw [zdr (g:=fun _=>0) (fun k hk=>h k (by omega) (by omega)),zhr];grind
theorem zoa {n:Nat} {f:Nat->Rat} {i j:Nat} (hi:i<n) (hj:j<n) (hne:i≠j) (h:∀ k,k<n->k≠i->k≠j->f k=0):XJ n f=f i+f j:=by
 have e:XJ n f=XJ n (fun k=>(if k=i then f i else 0)+(if k=j then f j else 0)):=by
  apply zdr
  intro k b
  by_cases l:k=i
  . subst l;rw [if_pos rfl,if_neg hne];grind
  by_cases m:k=j
  . subst m;rw [if_neg l,if_pos rfl];grind
  rw [if_neg l,if_neg m,h k b l m];grind
 rw [e,zpc,zdt hi (fun k _ b=>if_neg b),zdt hj (fun k _ b=>if_neg b),if_pos rfl,if_pos rfl]
abbrev Tab:=Nat->Nat->Rat
def Only (m:Nat) (A:Tab):Prop:=∀ x:Nat->Rat,(∀ i,i<m->XJ m (fun c=>A i c*x c)=0)->∀ c,c<m->x c=0
def zw6 (m k:Nat) (A:Tab):Prop:=∀ j,j<k->A j j≠0/\∀ i,i<m->i≠j->A i j=0
theorem pivot {m k:Nat} {A:Tab} (hO:Only m A) (hC:zw6 m k A) (hk:k<m):∃ p,k<=p/\p<m/\A p k≠0:=by
 apply Classical.byContradiction
 intro u
 have y:∀ p,k<=p->p<m->A p k=0:=fun p e l=>Classical.byContradiction fun h3=>u ⟨p,e,l,h3⟩
 have:=hO (fun c=>if c<k then -(A c k / A c c) else if c=k then 1 else 0) (fun i hi=>by
  by_cases r:i<k
  . rw [zoa (i:=i) (j:=k) hi hk (by omega)]
    . rw [if_pos r,if_neg (by omega),if_pos rfl]
      have:=(hC i r).1
      grind
    intro c z e l
    by_cases b:c<k
    . rw [(hC c b).2 i hi (by omega)];grind
    rw [if_neg b,if_neg l];grind
  . rw [zdt (j:=k) hk]
    . rw [y i (by omega) hi];grind
    intro c z e
    by_cases b:c<k
    . rw [(hC c b).2 i hi (by omega)];grind
    rw [if_neg b,if_neg e];grind) k hk
 rw [if_neg (by omega),if_pos rfl] at this
 exact absurd this (by grind)
theorem zje {a:Int} (h:a≠0):(a:Rat)≠0:=by
 intro e
 exact h (by exact_mod_cast e)
def lin (m:Nat) (A:Tab) (i:Nat) (x:Nat->Rat):Rat:=XJ m (fun c=>A i c*x c) - A i m
def Sz (X:Nat) (q:Rat):Prop:=q.num.natAbs<=X/\q.den<=X
theorem Sz.mono {X Y:Nat} {q:Rat} (h:Sz X q) (hXY:X<=Y):Sz Y q:=⟨uC h.1 hXY,uC h.2 hXY⟩
theorem zuh {X:Nat} {q:Rat} {s M:Int} (hs:s≠0) (h:q*s=M) (h1:M.natAbs<=X) (h2:s.natAbs<=X):Sz X q:=by
 have e:q=Rat.divInt M s:=by
  have j:=zje hs
  rw [Rat.divInt_eq_div, <- h]
  grind
 have m:(s.gcd M:Int) ∣ s.sign*M:=Int.dvd_trans (Int.gcd_dvd_right s M) (Int.dvd_mul_left _ _)
 have r:0<s.gcd M:=Int.gcd_pos_of_ne_zero_left _ hs
 have l:(s.sign*M).natAbs<=M.natAbs:=by
  rw [Int.natAbs_mul,Int.natAbs_sign,if_neg hs];omega
 constructor
 rotate_left
 . rw [e,Rat.den_divInt,if_neg hs]
   exact uC (Nat.div_le_self _ _) h2
 rw [e,Rat.num_divInt]
 obtain ⟨t,b⟩:=m;rw [b,Int.mul_ediv_cancel_left _ (by omega)];rw [b,Int.natAbs_mul] at l;have j:t.natAbs<=(s.gcd M:Int).natAbs*t.natAbs:=Nat.le_mul_of_pos_left _ (by simpa using r)
 omega
theorem zjg (q:Rat):((q.den:Int):Rat)≠0:=zje (by have:=q.den_nz;omega)
theorem zf6 (q:Rat):q*((q.den:Int):Rat)=(q.num:Rat):=by
 have h:=zjg q
 conv=>lhs;lhs;rw [<- Rat.num_divInt_den q]
 rw [Rat.divInt_eq_div]
 grind
theorem Sz.zero:Sz 1 0:=⟨by decide,by decide⟩
theorem Sz.one:Sz 1 1:=⟨by decide,by decide⟩
theorem Sz.mul {X Y:Nat} {p q:Rat} (hp:Sz X p) (hq:Sz Y q):Sz (X*Y) (p*q):=by
 refine zuh (s:=(p.den:Int)*q.den) (M:=p.num*q.num) (Int.mul_ne_zero (by have:=p.den_nz;omega) (by have:=q.den_nz;omega)) ?_ ?_ ?_
 . have b:=zf6 p
   have e:=zf6 q
   push_cast at b e |-
   rw [<- b, <- e];grind
 . rw [Int.natAbs_mul];exact Nat.mul_le_mul hp.1 hq.1
 . rw [Int.natAbs_mul];exact Nat.mul_le_mul (by simpa using hp.2) (by simpa using hq.2)
theorem Sz.add {X Y:Nat} {p q:Rat} (hp:Sz X p) (hq:Sz Y q):Sz (2*(X*Y)) (p+q):=by
 refine zuh (s:=(p.den:Int)*q.den) (M:=p.num*q.den+q.num*p.den) (Int.mul_ne_zero (by have:=p.den_nz;omega) (by have:=q.den_nz;omega)) ?_ ?_ ?_
 . have b:=zf6 p
   have e:=zf6 q
   push_cast at b e |-
   rw [<- b, <- e];grind
 . have b:(p.num*q.den+q.num*p.den).natAbs<=(p.num*q.den).natAbs+(q.num*p.den).natAbs:=by omega
   rw [Int.natAbs_mul,Int.natAbs_mul] at b;have e:=Nat.mul_le_mul hp.1 (show (q.den:Int).natAbs<=Y by simpa using hq.2);have j:=Nat.mul_le_mul hq.1 (show (p.den:Int).natAbs<=X by simpa using hp.2);rw [uH Y X] at j
   omega
 . rw [Int.natAbs_mul]
   have:=Nat.mul_le_mul (show (p.den:Int).natAbs<=X by simpa using hp.2) (show (q.den:Int).natAbs<=Y by simpa using hq.2)
   omega
theorem Sz.short {X e:Nat} {q:Rat} (h:Sz X q) (hX:X<10 ^ e) (he:0<e):yz e q:=⟨Vx (by have:=h.1;omega) he,Vx (by have:=h.2;omega) he⟩
theorem yz.sz {e:Nat} {q:Rat} (h:yz e q):Sz (10 ^ e) q:=⟨Nat.le_of_lt (Zz h.1),Nat.le_of_lt (Zz h.2)⟩
abbrev Dz (e:Nat) (q:Rat):Prop:=Sz (10 ^ e) q
theorem Dz.add {e f g:Nat} {p q:Rat} (hp:Dz e p) (hq:Dz f q) (hg:e+f+1<=g):Dz g (p+q):=by
 refine (Sz.add hp hq).mono ?_
 have b:10 ^ (e+f+1)<=10 ^ g:=Nat.pow_le_pow_right (by omega) hg
 rw [Nat.pow_succ,Nat.pow_add] at b
 omega
theorem Dz.mul {e f g:Nat} {p q:Rat} (hp:Dz e p) (hq:Dz f q) (hg:e+f<=g):Dz g (p*q):=by
 refine (Sz.mul hp hq).mono ?_
 rw [<- Nat.pow_add]
 exact Nat.pow_le_pow_right (by omega) hg
theorem Dz.more {e f:Nat} {q:Rat} (h:Dz e q) (hf:e<=f):Dz f q:=h.mono (Nat.pow_le_pow_right (by omega) hf)
theorem Dz.short {e f:Nat} {q:Rat} (h:Dz e q) (hf:e<f):yz f q:=Sz.short h (Nat.pow_lt_pow_right (by omega) hf) (by omega)
theorem Dz.zero (e:Nat):Dz e 0:=Sz.zero.mono (Nat.pow_pos (by omega))
theorem Dz.one (e:Nat):Dz e 1:=Sz.one.mono (Nat.pow_pos (by omega))
def xk:Nat->(Nat->Int)->Int
 | 0,_=>0
 | n+1,f=>xk n f+f n
theorem yv {n:Nat} {f g:Nat->Int} (h:∀ k,k<n->f k=g k):xk n f=xk n g:=by
 induction n with
 | zero=>rfl
 | succ n ih=>unfold xk;rw [ih fun k hk=>h k (by omega),h n (by omega)]
theorem Zt {n:Nat} {f g:Nat->Int} (s t:Int):xk n (fun k=>s*f k+t*g k)=s*xk n f+t*xk n g:=by
 induction n with
 | zero=>simp [xk]
 | succ n ih=>unfold xk;rw [ih,Int.mul_add,Int.mul_add];simp only [];omega
theorem Yz {n:Nat} {f:Nat->Int} (h:∀ k,k<n->f k=0):xk n f=0:=by
 induction n with
 | zero=>rfl
 | succ n ih=>unfold xk;rw [ih fun k hk=>h k (by omega),h n (by omega)];rfl
theorem YN {n a:Nat} {f:Nat->Int} (ha:a<n) (h:∀ k,k<n->k≠a->f k=0):xk n f=f a:=by
 induction n with
 | zero=>omega
 | succ n ih=>
   unfold xk
   by_cases e:a=n
   . subst e;rw [Yz fun k hk=>h k (by omega) (by omega)];omega
   rw [ih (by omega) fun k hk=>h k (by omega),h n (by omega) (by omega)];omega
theorem zfc {n a b:Nat} {f:Nat->Int} (ha:a<b) (hb:b<n) (h:∀ k,k<n->k≠a->k≠b->f k=0):xk n f=f a+f b:=by
 induction n with
 | zero=>omega
 | succ n ih=>
   unfold xk
   by_cases e:b=n
   . subst e;rw [YN ha fun k hk h1=>h k (by omega) h1 (by omega)]
   rw [ih (by omega) fun k hk=>h k (by omega),h n (by omega) (by omega) (by omega)];omega
def VG:Nat->(Nat->Nat)->Nat
 | 0,_=>0
 | n+1,f=>VG n f+f n
theorem zpe {n:Nat} {f:Nat->Int} {g:Nat->Nat} (h:∀ k,k<n->(f k).natAbs<=g k):(xk n f).natAbs<=VG n g:=by
 induction n with
 | zero=>exact uA
 | succ n ih=>
   unfold xk VG;have:=ih fun k hk=>h k (by omega)
   have:=h n (by omega)
   omega
theorem zfj {n c:Nat} {f:Nat->Nat}:VG n (fun k=>f k*c)=VG n f*c:=by
 induction n with
 | zero=>simp [VG]
 | succ n ih=>unfold VG;rw [ih,Nat.add_mul]
theorem zte {n:Nat} {f g:Nat->Nat} (h:∀ k,k<n->f k<=g k):VG n f<=VG n g:=by
 induction n with
 | zero=>exact uA
 | succ n ih=>unfold VG;have:=ih fun k hk=>h k (by omega);have:=h n (by omega);omega
def vv (j k:Nat):Nat:=if k<j then k else k+1
def sg (j:Nat):Int:=if j % 2=0 then 1 else -1
theorem zti (j:Nat):sg (j+1)= -sg j:=by unfold sg;split<;>split<;>omega
def det:Nat->(Nat->Nat->Int)->Int
 | 0,_=>1
 | n+1,v=>xk (n+1) fun j=>sg j*v j 0*det n fun k i=>v (vv j k) (i+1)
def vq (v:Nat->Nat->Int) (a:Nat) (x:Nat->Int):Nat->Nat->Int:=fun k=>if k=a then x else v k
theorem yS {v:Nat->Nat->Int} {a:Nat} {x:Nat->Int}:vq v a x a=x:=if_pos rfl
theorem y6 {v:Nat->Nat->Int} {a k:Nat} {x:Nat->Int} (h:k≠a):vq v a x k=v k:=if_neg h
theorem VH (v:Nat->Nat->Int) (a:Nat):vq v a (v a)=v:=by
 funext k
 by_cases h:k=a
 . subst h;rw [yS]
 rw [y6 h]
theorem xS {v:Nat->Nat->Int} {a b:Nat} {x y:Nat->Int} (h:a≠b):vq (vq v a x) b y=vq (vq v b y) a x:=by
 funext k
 by_cases e:k=a
 . subst e;rw [y6 h,yS,yS]
 by_cases j:k=b
 . subst j;rw [yS,y6 e,yS]
 rw [y6 j,y6 e,y6 e,y6 j]
theorem Vw:∀ {n:Nat} {v w:Nat->Nat->Int},(∀ k i,k<n->i<n->v k i=w k i)->det n v=det n w
 | 0,_,_,_=>rfl
 | n+1,v,w,h=>by
   unfold det
   apply yv
   intro j b;rw [h j 0 b (by omega)]
   congr 1
   apply Vw
   intro k i e hi;exact h _ _ (by unfold vv;split<;>omega) (by omega)
theorem zai:∀ {n:Nat} {v:Nat->Nat->Int} {a:Nat} {x y:Nat->Int} (s t:Int),a<n->det n (vq v a fun i=>s*x i+t*y i)=s*det n (vq v a x)+t*det n (vq v a y)
 | 0,_,_,_,_,_,_,h=>by omega
 | n+1,v,a,x,y,s,t,ha=>by
   unfold det;rw [<- Zt]
   apply yv
   intro j u
   by_cases e:j=a
   . subst e
     have b:∀ z:Nat->Int,(fun k i=>vq v j z (vv j k) (i+1))=fun k i=>v (vv j k) (i+1):=by
      intro z
      funext k i
      rw [y6 (by unfold vv;split<;>omega)]
     rw [b,b,b,yS,yS,yS];generalize det n _=D;simp only [Int.mul_add,Int.add_mul]
     congr 1
     . ac_rfl
     ac_rfl
   obtain ⟨a',r,m⟩:∃ a',a' <n/\vv j a' =a:=by
    by_cases h:a<j
    . exact ⟨a,by omega,if_pos h⟩
    exact ⟨a - 1,by omega,by unfold vv;rw [if_neg (by omega)];omega⟩
   have b:∀ z:Nat->Int,(fun k i=>vq v a z (vv j k) (i+1))=vq (fun k i=>v (vv j k) (i+1)) a' (fun i=>z (i+1)):=by
    intro z
    funext k i
    by_cases h:k=a'
    . subst h;rw [m,yS,yS]
    rw [y6 h,y6]
    intro l
    apply h
    rw [<- m] at l;unfold vv at l
    split at l<;>split at l<;>omega
   rw [b,b,b,y6 e,y6 e,y6 e,zai s t r,Int.mul_add]
   congr 1
   . ac_rfl
   ac_rfl
theorem zft:∀ {n:Nat} {v:Nat->Nat->Int} {a:Nat},a+1<n->v a=v (a+1)->det n v=0
 | 0,_,_,h,_=>by omega
 | n+1,v,a,ha,h=>by
   unfold det;rw [zfc (a:=a) (b:=a+1) (by omega) ha]
   . have m:(fun k i=>v (vv a k) (i+1))=fun k i=>v (vv (a+1) k) (i+1):=by
      funext k i
      by_cases e:k=a
      . subst e
        have j:vv k k=k+1:=if_neg (by omega);have l:vv (k+1) k=k:=if_pos (by omega);rw [j,l,h]
      have j:vv a k=vv (a+1) k:=by unfold vv;split<;>split<;>omega
      rw [j]
     rw [m,h,zti];generalize det n _=D;rw [Int.neg_mul,Int.neg_mul]
     omega
   intro k r y u
   by_cases e:k<a
   rotate_left
   . rw [zft (a:=a) (by omega)]
     . exact Int.mul_zero _
     funext i
     have j:vv k a=a:=if_pos (by omega);have l:vv k (a+1)=a+1:=if_pos (by omega);rw [j,l,h]
   rw [zft (a:=a - 1) (by omega)]
   . exact Int.mul_zero _
   funext i
   have j:vv k (a - 1)=a:=by unfold vv;rw [if_neg (by omega)];omega
   have l:vv k (a - 1+1)=a+1:=by unfold vv;rw [if_neg (by omega)];omega
   rw [j,l,h]
theorem zat {n:Nat} {v:Nat->Nat->Int} {a:Nat} {x y:Nat->Int} (ha:a<n):det n (vq v a fun i=>x i+y i)=det n (vq v a x)+det n (vq v a y):=by
 have h:=zai (v:=v) (x:=x) (y:=y) 1 1 ha
 simp only [Int.one_mul] at h
 exact h
theorem zn0 {n:Nat} {v:Nat->Nat->Int} {a:Nat} (ha:a+1<n) (x y:Nat->Int):det n (vq (vq v a x) (a+1) y)= -det n (vq (vq v a y) (a+1) x):=by
 have e:∀ z:Nat->Int,det n (vq (vq v a z) (a+1) z)=0:=fun z=>zft ha (by rw [y6 (by omega),yS,yS])
 have h:=e fun i=>x i+y i
 rw [zat (by omega),xS (by omega),zat (by omega),xS (a:=a) (b:=a+1) (y:=y) (by omega),zat (by omega)] at h
 rw [xS (a:=a+1) (b:=a) (by omega),xS (a:=a+1) (b:=a) (by omega),xS (a:=a+1) (b:=a) (by omega),xS (a:=a+1) (b:=a) (by omega)] at h
 rw [e,e] at h
 omega
theorem zpx:∀ {d n:Nat} {v:Nat->Nat->Int} {a:Nat},a+d+1<n->v a=v (a+d+1)->det n v=0
 | 0,n,v,a,h,e=>zft h e
 | d+1,n,v,a,h,e=>by
   have b:v=vq (vq v (a+d+1) (v (a+d+1))) (a+d+1+1) (v (a+d+1+1)):=by rw [VH,VH]
   rw [b,zn0 (by omega)]
   have:det n (vq (vq v (a+d+1) (v (a+d+1+1))) (a+d+1+1) (v (a+d+1)))=0:=by
    apply zpx (d:=d) (a:=a) (by omega)
    rw [y6 (by omega),y6 (by omega),y6 (by omega),yS,e];rfl
   rw [this];rfl
theorem zkj {n a b:Nat} {v:Nat->Nat->Int} (ha:a<n) (hb:b<n) (h:a≠b) (e:v a=v b):det n v=0:=by
 rcases uL a b with j | j
 . exact zpx (d:=b - a - 1) (a:=a) (by omega) (by rw [e];congr 1;omega)
 . exact zpx (d:=a - b - 1) (a:=b) (by omega) (by rw [<- e];congr 1;omega)
theorem zqv {n a b:Nat} {v:Nat->Nat->Int} (ha:a<n) (hb:b<n) (h:a≠b) (x y:Nat->Int):det n (vq (vq v a x) b y)= -det n (vq (vq v a y) b x):=by
 have l:∀ z:Nat->Int,det n (vq (vq v a z) b z)=0:=fun z=>zkj ha hb h (by rw [y6 h,yS,yS])
 have j:=l fun i=>x i+y i
 rw [zat hb,xS h,zat ha,xS (a:=a) (b:=b) (y:=y) h,zat ha] at j
 rw [xS (a:=b) (b:=a) (fun e=>h e.symm),xS (a:=b) (b:=a) (fun e=>h e.symm),xS (a:=b) (b:=a) (fun e=>h e.symm),xS (a:=b) (b:=a) (fun e=>h e.symm)] at j
 rw [l,l] at j
 omega
theorem zn5 {n a b:Nat} {v:Nat->Nat->Int} (ha:a<n) (hb:b<n) (h:a≠b):det n (vq v a (v b))=0:=
 zkj ha hb h (by rw [yS,y6 (fun e=>h e.symm)])
theorem zq8 {n a b:Nat} {v:Nat->Nat->Int} (ha:a<n) (hb:b<n) (h:a≠b) (x:Nat->Int):det n (vq (vq v a x) b (v a))= -det n (vq v b x):=by
 rw [zqv ha hb h,VH]
theorem zq4 {n a:Nat} {v:Nat->Nat->Int} (ha:a<n):det n (vq v a fun _=>0)=0:=by
 have h:=zai (v:=v) (x:=fun _=>0) (y:=fun _=>0) 0 0 ha
 simp only [Int.zero_mul,Int.add_zero] at h
 exact h
theorem zi9 {n a:Nat} {v:Nat->Nat->Int} (ha:a<n) (c:Nat->Int) (x:Nat->Nat->Int):∀ m,det n (vq v a fun i=>xk m fun j=>c j*x j i)=xk m fun j=>c j*det n (vq v a (x j))
 | 0=>zq4 ha
 | m+1=>by
   have h:=zai (v:=v) (x:=fun i=>xk m fun j=>c j*x j i) (y:=x m) 1 (c m) ha;simp only [Int.one_mul] at h;unfold xk;rw [h,zi9 ha c x m]
theorem zqj {n a:Nat} {v:Nat->Nat->Int} (ha:a<n) {u:Nat->Int} {d:Int} {c:Nat->Int} (h:∀ i,i<n->d*u i=xk n fun j=>c j*v j i):d*det n (vq v a u)=c a*det n v:=by
 have l:=zai (v:=v) (x:=u) (y:=u) d 0 ha
 simp only [Int.zero_mul,Int.add_zero] at l
 rw [<- l]
 have m:det n (vq v a fun i=>d*u i)=det n (vq v a fun i=>xk n fun j=>c j*v j i):=by
  apply Vw
  intro k i b hi
  by_cases e:k=a
  . subst e;rw [yS,yS,h i hi]
  rw [y6 e,y6 e]
 rw [m,zi9 ha,YN ha,VH]
 intro k b r
 rw [zn5 ha b (fun e=>r e.symm),Int.mul_zero]
theorem zsi:∀ n,det n (fun k i=>if k=i then 1 else 0)=1
 | 0=>rfl
 | n+1=>by
   unfold det;rw [YN (a:=0) (by omega)]
   rotate_left
   . intro k b h
     simp only [];rw [if_neg h,Int.mul_zero,Int.zero_mul]
   have:(fun k i=>(if vv 0 k=i+1 then 1 else 0:Int))=fun k i=>if k=i then 1 else 0:=by
    funext k i
    have:vv 0 k=k+1:=if_neg (by omega);rw [this]
    by_cases h:k=i
    . rw [if_pos h,if_pos (by omega)]
    rw [if_neg h,if_neg (by omega)]
   rw [this,zsi n];rfl
def XL:Nat->(Nat->Nat)->Nat
 | 0,_=>1
 | n+1,f=>XL n f*f n
theorem zj2 (n:Nat) (f:Nat->Nat):XL (n+1) f=f 0*XL n fun k=>f (k+1):=by
 induction n with
 | zero=>simp [XL]
 | succ n ih=>
   have e:XL (n+1+1) f=XL (n+1) f*f (n+1):=rfl;rw [e,ih];have b:XL (n+1) (fun k=>f (k+1))=XL n (fun k=>f (k+1))*f (n+1):=rfl;rw [b,Nat.mul_assoc]
theorem zmw {n j:Nat} {f:Nat->Nat} (hj:j<n+1):VG n (fun k=>f (vv j k))+f j=VG (n+1) f:=by
 induction n with
 | zero=>obtain rfl:j=0:=by omega
         simp [VG]
 | succ n ih=>
   by_cases e:j=n+1
   rotate_left
   . have l:VG (n+1) (fun k=>f (vv j k))=VG n (fun k=>f (vv j k))+f (n+1):=by
      have:vv j n=n+1:=if_neg (by omega)
      show VG n (fun k=>f (vv j k))+f (vv j n)=_
      rw [this]
     have b:VG (n+1+1) f=VG (n+1) f+f (n+1):=rfl;rw [l,b, <- ih (by omega)]
     omega
   subst e
   have:VG (n+1) (fun k=>f (vv (n+1) k))=VG (n+1) f:=by
    have h:∀ m,m<=n+1->VG m (fun k=>f (vv (n+1) k))=VG m f:=by
     intro m
     induction m with
     | zero=>intro _;rfl
     | succ m ihm=>
       intro r;unfold VG;rw [ihm (by omega)];have:vv (n+1) m=m:=if_pos (by omega);simp only [];rw [this]
    exact h _ (uA)
   rw [this];rfl
theorem zsn:∀ {n:Nat} {v:Nat->Nat->Int} {R:Nat->Nat},(∀ i,i<n->VG n (fun k=>(v k i).natAbs)<=R i)->(det n v).natAbs<=XL n R
 | 0,_,_,_=>uA
 | n+1,v,R,h=>by
   unfold det;rw [zj2];refine uC (zpe (g:=fun k=>(v k 0).natAbs*XL n fun i=>R (i+1)) ?_) ?_
   rotate_left
   . rw [zfj]
     exact Nat.mul_le_mul_right _ (h 0 (by omega))
   intro k b
   rw [Int.natAbs_mul,Int.natAbs_mul];have e:(sg k).natAbs=1:=by unfold sg;split<;>rfl
   rw [e,Nat.one_mul]
   apply Nat.mul_le_mul_left
   apply zsn
   intro i hi;have l:=h (i+1) (by omega);have j:=zmw (f:=fun k=>(v k (i+1)).natAbs) b
   omega
theorem vQ {n a:Nat} {f:Nat->Int} (ha:a<n):xk n f=f a+xk n fun j=>if j=a then 0 else f j:=by
 induction n with
 | zero=>omega
 | succ n ih=>
   unfold xk
   by_cases e:a=n
   . subst e
     have:(xk a fun j=>if j=a then 0 else f j)=xk a f:=yv fun k hk=>if_neg (by omega)
     rw [this];simp only [if_true];omega
   rw [ih (by omega)]
   have:(if n=a then 0 else f n)=f n:=if_neg (fun h=>e h.symm);simp only [this]
   omega
def zk.colv (M:Nat->Nat->Int) (b:Nat->Int) (T:zk) (k:Nat):Nat->Int:=fun i=>if k=0 then -(b i) else M (T.other (k - 1)) i
structure zk.Inv (M:Nat->Nat->Int) (b:Nat->Int) (m L:Nat) (T:zk):Prop where
 den:0<T.den
 ex:∀ k i,k<L->i<m->T.den*T.colv M b k i=xk m fun j=> -(T.cell j k)*M (T.basic j) i
 dt:det m (fun j=>M (T.basic j))=T.den\/det m (fun j=>M (T.basic j))= -T.den
section
variable {M:Nat->Nat->Int} {b:Nat->Int} {m L:Nat} {T:zk}
theorem zk.Inv.cells (h:T.Inv M b m L):∃ s:Int,(s=1\/s= -1)/\det m (fun j=>M (T.basic j))=s*T.den/\∀ i k,i<m->k<L->T.cell i k= -s*det m (vq (fun j=>M (T.basic j)) i (T.colv M b k)):=by
 have hd:=h.den
 have key:∀ i k,i<m->k<L->T.den*det m (vq (fun j=>M (T.basic j)) i (T.colv M b k))= -(T.cell i k)*det m (fun j=>M (T.basic j)):=fun i k hi hk=>zqj hi (fun i' hi' =>h.ex k i' hk hi')
 rcases h.dt with e | e
 . refine ⟨1,.inl rfl,by rw [e];omega,fun i k hi hk=>?_⟩
   have:=key i k hi hk;rw [e,Int.mul_comm (-(T.cell i k))] at this;have:=Int.eq_of_mul_eq_mul_left (by omega) this;rw [this];omega
 . refine ⟨-1,.inr rfl,by rw [e];omega,fun i k hi hk=>?_⟩
   have:=key i k hi hk;rw [e,Int.neg_mul_neg,Int.mul_comm (T.cell i k)] at this;have:=Int.eq_of_mul_eq_mul_left (by omega) this;rw [this];omega
theorem zk.Inv.exact (h:T.Inv M b m L) {r c i k:Nat} (hr:r<m) (hc:c<L) (hi:i<m) (hk:k<L) (hir:i≠r):
 T.den ∣ T.cell i k*T.cell r c - T.cell i c*T.cell r k:=by
 obtain ⟨s,U,V,F⟩:=h.cells
 generalize O:(fun j=>M (T.basic j))=B at*
 have R:T.den*det m (vq (vq B r (T.colv M b c)) i (T.colv M b k))=xk m fun j=> -(T.cell j k)*det m (vq (vq B r (T.colv M b c)) i (B j)):=by
  have l:=zai (v:=vq B r (T.colv M b c)) (x:=T.colv M b k) (y:=T.colv M b k) T.den 0 hi
  simp only [Int.zero_mul,Int.add_zero] at l
  rw [<- l, <- zi9 hi]
  apply Vw
  intro k' N S J
  by_cases e:k' =i
  . subst e;rw [yS,yS,h.ex k N hk J, <- O]
  rw [y6 e,y6 e]
 have I:i<r\/r<i:=by omega
 have C:det m (vq (vq B r (T.colv M b c)) i (B i))=det m (vq B r (T.colv M b c)):=by
  congr 1
  funext k'
  by_cases e:k' =i
  . subst e;rw [yS,y6 hir]
  rw [y6 e]
 have E:det m (vq (vq B r (T.colv M b c)) i (B r))= -det m (vq B i (T.colv M b c)):=zq8 hr hi (fun e=>hir e.symm) _
 have D:∀ j,j<m->j≠i->j≠r-> -(T.cell j k)*det m (vq (vq B r (T.colv M b c)) i (B j))=0:=by
  intro j u l z
  have:B j=vq B r (T.colv M b c) j:=(y6 z).symm
  rw [this,zn5 hi u (fun e=>l e.symm),Int.mul_zero]
 have K:T.den*det m (vq (vq B r (T.colv M b c)) i (T.colv M b k))= -(T.cell i k)*det m (vq B r (T.colv M b c))+ -(T.cell r k)* -det m (vq B i (T.colv M b c)):=by
  rw [R]
  rcases I with l | l
  . rw [zfc l hr (fun j u l z=>D j u l z),C,E]
  . rw [zfc l hi (fun j u l z=>D j u z l),C,E];omega
 have Q:=F r c hr hc
 have G:=F i c hi hc
 refine ⟨s*det m (vq (vq B r (T.colv M b c)) i (T.colv M b k)),?_⟩
 generalize det m (vq (vq B r (T.colv M b c)) i (T.colv M b k))=X at*
 generalize det m (vq B r (T.colv M b c))=Y at*
 generalize det m (vq B i (T.colv M b c))=Z at*
 rw [Q,G]
 have:T.den*(s*X)=s*(T.den*X):=by ac_rfl
 rw [this,K]
 grind
theorem zk.Inv.bare (h:T.Inv M b m L) {r c i k:Nat} (hr:r<m) (hc:c<L) (hi:i<m) (hk:k<L) (hir:i≠r) (hkc:k≠c):
 T.den*T.bare r c i k=T.cell i k*T.cell r c - T.cell i c*T.cell r k:=by
 unfold zk.bare
 rw [if_neg hir,if_neg hkc]
 exact Int.mul_tdiv_cancel' (h.exact hr hc hi hk hir)
theorem zk.bare_r {r c k:Nat} (hk:k≠c):T.bare r c r k= -(T.cell r k):=by unfold zk.bare;rw [if_pos rfl,if_neg hk]
theorem zk.bare_rc {r c:Nat}:T.bare r c r c=T.den:=by unfold zk.bare;rw [if_pos rfl,if_pos rfl]
theorem zk.bare_c {r c i:Nat} (hi:i≠r):T.bare r c i c=T.cell i c:=by unfold zk.bare;rw [if_neg hi,if_pos rfl]
theorem zk.colv_pivot {r c k:Nat} (h0:0<c) (hk:k≠c):(T.pivot r c).colv M b k=T.colv M b k:=by
 unfold zk.colv zk.pivot
 funext i
 by_cases e:k=0
 . rw [if_pos e,if_pos e]
 simp only []
 rw [if_neg e,if_neg e,if_neg (by omega)]
theorem zk.colv_pivot_c {r c:Nat} (h0:0<c):(T.pivot r c).colv M b c=M (T.basic r):=by
 unfold zk.colv zk.pivot
 funext i
 simp only [if_true]
 rw [if_neg (by omega)]
theorem zk.basic_pivot {r c:Nat} (h0:0<c):(fun j=>M ((T.pivot r c).basic j))=vq (fun j=>M (T.basic j)) r (T.colv M b c):=by
 funext j
 unfold zk.pivot zk.colv
 by_cases e:j=r
 . subst e;rw [yS];funext i;simp only [if_true];rw [if_neg (by omega)]
 rw [y6 e];simp only [];rw [if_neg e]
theorem zk.Inv.exBare (h:T.Inv M b m L) {r c:Nat} (hr:r<m) (h0:0<c) (hc:c<L) (k i:Nat) (hk:k<L) (hi:i<m):
 T.cell r c*(T.pivot r c).colv M b k i=xk m fun j=> -(T.bare r c j k)*M ((T.pivot r c).basic j) i:=by
 have y:∀ j,M ((T.pivot r c).basic j) i=vq (fun j=>M (T.basic j)) r (T.colv M b c) j i:=fun j=>congrFun (congrFun (zk.basic_pivot (M:=M) (b:=b) h0) j) i
 have z:=h.ex c i hc hi
 rw [vQ hr] at z
 rw [vQ hr,y r,yS]
 have hS:∀ k',(xk m fun j=>if j=r then 0 else -(T.cell j k')*M (T.basic j) i)= -(xk m fun j=>if j=r then 0 else T.cell j k' *M (T.basic j) i):=by
  intro k'
  have:=Zt (n:=m) (f:=fun j=>if j=r then 0 else T.cell j k' *M (T.basic j) i) (g:=fun _=>0) (-1) 0
  rw [show -(xk m fun j=>if j=r then 0 else T.cell j k' *M (T.basic j) i)= -1*(xk m fun j=>if j=r then 0 else T.cell j k' *M (T.basic j) i)+0*xk m (fun _=>0) by omega, <- this]
  apply yv
  intro j u
  by_cases e:j=r
  . simp only [if_pos e];rfl
  simp only [if_neg e];rw [Int.neg_mul];omega
 rw [hS] at z
 by_cases l:k=c
 . subst l
   rw [zk.colv_pivot_c h0,zk.bare_rc]
   have B:(xk m fun j=>if j=r then 0 else -(T.bare r k j k)*M ((T.pivot r k).basic j) i)= -(xk m fun j=>if j=r then 0 else T.cell j k*M (T.basic j) i):=by
    rw [<- hS]
    apply yv
    intro j u
    by_cases e:j=r
    . rw [if_pos e,if_pos e]
    rw [if_neg e,if_neg e,zk.bare_c e,y j,y6 e]
   rw [B];generalize (xk m fun j=>if j=r then 0 else T.cell j k*M (T.basic j) i)=A at*;generalize T.colv M b k i=C at*
   grind
 rw [zk.colv_pivot h0 l,zk.bare_r l]
 have D:=h.ex k i hk hi;rw [vQ hr,hS] at D
 have B:T.den*(xk m fun j=>if j=r then 0 else -(T.bare r c j k)*M ((T.pivot r c).basic j) i)= -(T.cell r c)*(xk m fun j=>if j=r then 0 else T.cell j k*M (T.basic j) i)+T.cell r k*(xk m fun j=>if j=r then 0 else T.cell j c*M (T.basic j) i):=by
  rw [<- Zt];have:=Zt (n:=m) (f:=fun j=>if j=r then 0 else -(T.bare r c j k)*M ((T.pivot r c).basic j) i) (g:=fun _=>0) T.den 0;rw [show T.den*(xk m fun j=>if j=r then 0 else -(T.bare r c j k)*M ((T.pivot r c).basic j) i)=T.den*(xk m fun j=>if j=r then 0 else -(T.bare r c j k)*M ((T.pivot r c).basic j) i)+0*xk m (fun _=>0) by omega, <- this]
  apply yv
  intro j u
  by_cases e:j=r
  . simp only [if_pos e];omega
  simp only [if_neg e]
  have hb:=h.bare hr hc u hk e l;rw [y j,y6 e];generalize M (T.basic j) i=X at*;generalize T.bare r c j k=Y at*
  grind
 generalize (xk m fun j=>if j=r then 0 else T.cell j k*M (T.basic j) i)=A at*;generalize (xk m fun j=>if j=r then 0 else T.cell j c*M (T.basic j) i)=A2 at*;generalize (xk m fun j=>if j=r then 0 else -(T.bare r c j k)*M ((T.pivot r c).basic j) i)=A3 at*;generalize T.colv M b k i=K at*;generalize T.colv M b c i=C at*;have hd:=h.den
 apply Int.eq_of_mul_eq_mul_left (a:=T.den) (by omega)
 grind
theorem zk.Inv.detBare (h:T.Inv M b m L) {r c:Nat} (hr:r<m) (h0:0<c) (hc:c<L):
 det m (fun j=>M ((T.pivot r c).basic j))=T.cell r c\/det m (fun j=>M ((T.pivot r c).basic j))= -(T.cell r c):=by
 obtain ⟨s,e,u,l⟩:=h.cells
 rw [zk.basic_pivot (b:=b) h0]
 have:=l r c hr hc
 rcases e with rfl | rfl<;>omega
theorem zk.pivot_den {r c:Nat}:(T.pivot r c).den=if T.cell r c<0 then -(T.cell r c) else T.cell r c:=rfl
theorem zk.pivot_cell {r c i k:Nat}:(T.pivot r c).cell i k=if T.cell r c<0 then -(T.bare r c i k) else T.bare r c i k:=rfl
theorem zk.Inv.pivot (h:T.Inv M b m L) {r c:Nat} (hr:r<m) (h0:0<c) (hc:c<L) (hp:T.cell r c≠0):(T.pivot r c).Inv M b m L:=by
 have hd:=h.detBare hr h0 hc
 by_cases e:T.cell r c<0
 rotate_left
 . refine ⟨by rw [zk.pivot_den,if_neg e];omega,fun k i hk hi=>?_,by rw [zk.pivot_den,if_neg e];omega⟩
   rw [zk.pivot_den,if_neg e,h.exBare hr h0 hc k i hk hi]
   apply yv
   intro j u;rw [zk.pivot_cell,if_neg e]
 refine ⟨by rw [zk.pivot_den,if_pos e];omega,fun k i hk hi=>?_,by rw [zk.pivot_den,if_pos e];omega⟩
 have l:=h.exBare hr h0 hc k i hk hi;have y:=Zt (n:=m) (f:=fun j=> -(T.bare r c j k)*M ((T.pivot r c).basic j) i) (g:=fun _=>0) (-1) 0;rw [zk.pivot_den,if_pos e,Int.neg_mul,l,show -(xk m fun j=> -(T.bare r c j k)*M ((T.pivot r c).basic j) i)= -1*(xk m fun j=> -(T.bare r c j k)*M ((T.pivot r c).basic j) i)+0*xk m (fun _=>0) by omega, <- y]
 apply yv
 intro j u;rw [zk.pivot_cell,if_pos e]
 grind
end
def zk.Aim (g:Nat->Int) (m L:Nat) (T:zk):Prop:=
 ∀ k,k<L->T.cell m k=T.den*(if k=0 then 0 else g (T.other (k - 1)))+xk m fun j=>T.cell j k*g (T.basic j)
section
variable {M:Nat->Nat->Int} {b:Nat->Int} {m L:Nat} {T:zk} {g:Nat->Int}
theorem zq5 {n:Nat} {f:Nat->Int}:(xk n fun j=> -(f j))= -xk n f:=by
 have:=Zt (n:=n) (f:=f) (g:=fun _=>0) (-1) 0
 rw [show -xk n f= -1*xk n f+0*xk n (fun _=>0) by omega, <- this]
 exact yv fun k hk=>by omega
theorem zsa {n:Nat} {f:Nat->Int} (s:Int):(xk n fun j=>s*f j)=s*xk n f:=by
 have:=Zt (n:=n) (f:=f) (g:=fun _=>0) s 0
 rw [show s*xk n f=s*xk n f+0*xk n (fun _=>0) by omega, <- this]
 exact yv fun k hk=>by omega
theorem zk.Inv.aimSum (h:T.Inv M b m L) (ha:T.Aim g m L) {r c k:Nat} (hr:r<m) (h0:0<c) (hc:c<L) (hk:k<L) (hkc:k≠c):
 T.cell m k*T.cell r c - T.cell m c*T.cell r k=T.den*(T.cell r c*(if k=0 then 0 else g (T.other (k - 1)))+xk m fun j=>T.bare r c j k*g (if j=r then T.other (c - 1) else T.basic j)):=by
 have hd:=h.den
 rw [ha k hk,ha c hc,vQ (a:=r) hr,vQ (a:=r) (f:=fun j=>T.cell j c*g (T.basic j)) hr,vQ (a:=r) (f:=fun j=>T.bare r c j k*g (if j=r then T.other (c - 1) else T.basic j)) hr]
 have u:¬ c=0:=by omega
 have y:T.den*(xk m fun j=>if j=r then 0 else T.bare r c j k*g (if j=r then T.other (c - 1) else T.basic j))=T.cell r c*(xk m fun j=>if j=r then 0 else T.cell j k*g (T.basic j))+ -(T.cell r k)*(xk m fun j=>if j=r then 0 else T.cell j c*g (T.basic j)):=by
  rw [<- Zt, <- zsa]
  apply yv
  intro j l
  by_cases e:j=r
  . simp only [if_pos e];omega
  simp only [if_neg e]
  have hb:=h.bare hr hc l hk e hkc;generalize g (T.basic j)=X at*;generalize T.bare r c j k=Y at*
  grind
 rw [zk.bare_r hkc]
 simp only [if_true,if_neg u]
 generalize (xk m fun j=>if j=r then 0 else T.bare r c j k*g (if j=r then T.other (c - 1) else T.basic j))=A3 at*
 generalize (xk m fun j=>if j=r then 0 else T.cell j k*g (T.basic j))=A at*
 generalize (xk m fun j=>if j=r then 0 else T.cell j c*g (T.basic j))=A2 at*
 generalize (if k=0 then 0 else g (T.other (k - 1)))=K at*
 generalize g (T.other (c - 1))=C at*
 generalize g (T.basic r)=R at*
 rw [Int.mul_add,Int.mul_add,y]
 grind
theorem zk.Inv.bareM (h:T.Inv M b m L) (ha:T.Aim g m L) {r c k:Nat} (hr:r<m) (h0:0<c) (hc:c<L) (hk:k<L) (hkc:k≠c):
 T.den*T.bare r c m k=T.cell m k*T.cell r c - T.cell m c*T.cell r k:=by
 unfold zk.bare
 rw [if_neg (by omega),if_neg hkc]
 exact Int.mul_tdiv_cancel' ⟨_,h.aimSum ha hr h0 hc hk hkc⟩
theorem zk.Inv.bareAll (h:T.Inv M b m L) (ha:T.Aim g m L) {r c i k:Nat} (hr:r<m) (h0:0<c) (hc:c<L) (hi:i<=m) (hk:k<L) (hir:i≠r) (hkc:k≠c):
 T.den*T.bare r c i k=T.cell i k*T.cell r c - T.cell i c*T.cell r k:=by
 rcases uL i m with e | e
 . exact h.bare hr hc e hk hir hkc
 . obtain rfl:i=m:=by omega
   exact h.bareM ha hr h0 hc hk hkc
theorem zk.Inv.aimBare (h:T.Inv M b m L) (ha:T.Aim g m L) {r c:Nat} (hr:r<m) (h0:0<c) (hc:c<L) (k:Nat) (hk:k<L):
 T.bare r c m k=T.cell r c*(if k=0 then 0 else g ((T.pivot r c).other (k - 1)))+xk m fun j=>T.bare r c j k*g ((T.pivot r c).basic j):=by
 have hd:=h.den
 have C:∀ j,(T.pivot r c).basic j=if j=r then T.other (c - 1) else T.basic j:=fun j=>rfl
 have u:∀ j,(T.pivot r c).other j=if j=c - 1 then T.basic r else T.other j:=fun j=>rfl
 have z:(xk m fun j=>T.bare r c j k*g ((T.pivot r c).basic j))=xk m fun j=>T.bare r c j k*g (if j=r then T.other (c - 1) else T.basic j):=rfl
 rw [z]
 by_cases e:k=c
 rotate_left
 . apply Int.eq_of_mul_eq_mul_left (a:=T.den) (by omega)
   rw [h.bareM ha hr h0 hc hk e,h.aimSum ha hr h0 hc hk e]
   congr 3
   by_cases l:k=0
   . rw [if_pos l,if_pos l]
   rw [if_neg l,if_neg l,u,if_neg (by omega)]
 subst e
 rw [zk.bare_c (by omega),ha k hk,if_neg (by omega),if_neg (by omega),u,if_pos rfl,vQ (a:=r) hr,vQ (a:=r) (f:=fun j=>T.bare r k j k*g (if j=r then T.other (k - 1) else T.basic j)) hr,zk.bare_rc]
 have y:(xk m fun j=>if j=r then 0 else T.cell j k*g (T.basic j))=xk m fun j=>if j=r then 0 else T.bare r k j k*g (if j=r then T.other (k - 1) else T.basic j):=by
  apply yv
  intro j B
  by_cases e:j=r
  . rw [if_pos e,if_pos e]
  rw [if_neg e,if_neg e,if_neg e,zk.bare_c e]
 rw [y];simp only [if_true]
 omega
theorem zk.Inv.aim (h:T.Inv M b m L) (ha:T.Aim g m L) {r c:Nat} (hr:r<m) (h0:0<c) (hc:c<L):(T.pivot r c).Aim g m L:=by
 intro k y
 rw [zk.pivot_cell,zk.pivot_den]
 have u:=h.aimBare ha hr h0 hc k y
 by_cases e:T.cell r c<0
 rotate_left
 . rw [if_neg e,if_neg e,u]
   have l:(xk m fun j=>(T.pivot r c).cell j k*g ((T.pivot r c).basic j))=(xk m fun j=>T.bare r c j k*g ((T.pivot r c).basic j)):=
    yv fun j hj=>by rw [zk.pivot_cell,if_neg e]
   rw [l]
 rw [if_pos e,if_pos e,u]
 have l:(xk m fun j=>(T.pivot r c).cell j k*g ((T.pivot r c).basic j))= -(xk m fun j=>T.bare r c j k*g ((T.pivot r c).basic j)):=by
  rw [<- zq5];exact yv fun j hj=>by rw [zk.pivot_cell,if_pos e,Int.neg_mul]
 rw [l,Int.neg_mul]
 omega
theorem zk.Inv.small (h:T.Inv M b m L) {X:Nat->Nat} (hM:∀ u i,i<m->(M u i).natAbs<=X i) (hb:∀ i,i<m->(b i).natAbs<=X i):
 T.den.natAbs<=XL m (fun i=>m*X i)/\∀ i k,i<m->k<L->(T.cell i k).natAbs<=XL m fun i=>m*X i:=by
 obtain ⟨s,z,F,E⟩:=h.cells
 have B:VG m (fun _=>1)=m:=by
  have:∀ n,VG n (fun _=>1)=n:=fun n=>by
   induction n with
   | zero=>rfl
   | succ n ih=>unfold VG;rw [ih]
  exact this m
 have y:∀ (v:Nat->Nat->Int),(∀ j i,i<m->(v j i).natAbs<=X i)->(det m v).natAbs<=XL m fun i=>m*X i:=by
  intro v hv
  apply zsn
  intro i hi
  refine uC (zte (g:=fun _=>1*X i) fun k hk=>by simpa using hv k i hi) ?_
  rw [zfj (f:=fun _=>1),B]
  exact uA
 have D:∀ k i,i<m->(T.colv M b k i).natAbs<=X i:=by
  intro k i hi
  unfold zk.colv
  split
  . have:=hb i hi;omega
  exact hM _ _ hi
 refine ⟨?_,fun i k hi hk=>?_⟩
 . have l:=y (fun j=>M (T.basic j)) fun j i hi=>hM _ _ hi
   have:T.den.natAbs=(det m fun j=>M (T.basic j)).natAbs:=by
    rw [F,Int.natAbs_mul]
    rcases z with rfl | rfl<;>simp
   rw [this];exact l
 have l:=y (vq (fun j=>M (T.basic j)) i (T.colv M b k)) (by
  intro j C r
  by_cases e:j=i
  . subst e;rw [yS];exact D k C r
  rw [y6 e];exact hM _ _ r)
 rw [E i k hi hk,Int.natAbs_mul]
 rcases z with rfl | rfl<;>simpa using l
theorem zk.Aim.small (ha:T.Aim g m L) {Y G:Nat} (hd:T.den.natAbs<=Y) (hc:∀ i k,i<m->k<L->(T.cell i k).natAbs<=Y) (hg:∀ u,(g u).natAbs<=G) {k:Nat} (hk:k<L):(T.cell m k).natAbs<=(m+1)*(Y*G):=by
 rw [ha k hk]
 have b:(xk m fun j=>T.cell j k*g (T.basic j)).natAbs<=m*(Y*G):=by
  refine uC (zpe (g:=fun _=>1*(Y*G)) fun j hj=>?_) ?_
  . rw [Int.natAbs_mul,Nat.one_mul];exact Nat.mul_le_mul (hc j k hj hk) (hg _)
  rw [zfj (f:=fun _=>1)]
  have:∀ n,VG n (fun _=>1)=n:=fun n=>by
   induction n with
   | zero=>rfl
   | succ n ih=>unfold VG;rw [ih]
  rw [this];exact uA
 have e:(T.den*(if k=0 then 0 else g (T.other (k - 1)))).natAbs<=Y*G:=by
  rw [Int.natAbs_mul]
  apply Nat.mul_le_mul hd
  split
  . simp
  exact hg _
 rw [Nat.add_mul]
 omega
end
def zJ:Nat->(Nat->Rat)->Rat
 | 0,_=>0
 | n+1,f=>zJ n f+f n
theorem zw {n:Nat} {f g:Nat->Rat} (h:∀ k,k<n->f k=g k):zJ n f=zJ n g:=by
 induction n with
 | zero=>rfl
 | succ n ih=>unfold zJ;rw [ih fun k hk=>h k (by omega),h n (by omega)]
theorem ZE {n:Nat} {f g:Nat->Rat} (s t:Rat):(zJ n fun k=>s*f k+t*g k)=s*zJ n f+t*zJ n g:=by
 induction n with
 | zero=>unfold zJ;grind
 | succ n ih=>unfold zJ;rw [ih];grind
theorem yC {n:Nat} {f:Nat->Rat} (h:∀ k,k<n->f k=0):zJ n f=0:=by
 induction n with
 | zero=>rfl
 | succ n ih=>unfold zJ;rw [ih fun k hk=>h k (by omega),h n (by omega)];grind
theorem Y1 {n a:Nat} {f:Nat->Rat} (ha:a<n):zJ n f=f a+zJ n fun j=>if j=a then 0 else f j:=by
 induction n with
 | zero=>omega
 | succ n ih=>
   unfold zJ
   by_cases e:a=n
   . subst e
     have:(zJ a fun j=>if j=a then 0 else f j)=zJ a f:=zw fun k hk=>if_neg (by omega)
     rw [this];simp only [if_true];grind
   rw [ih (by omega)]
   have:(if n=a then 0 else f n)=f n:=if_neg (fun h=>e h.symm);simp only [this]
   grind
theorem vu {n a:Nat} {f:Nat->Rat} (ha:a<n) (h:∀ k,k<n->k≠a->f k=0):zJ n f=f a:=by
 rw [Y1 ha,yC]
 . grind
 intro k b
 by_cases e:k=a
 . exact if_pos e
 rw [if_neg e];exact h k b e
def zk.tell (T:zk) (n:Nat) (x:Nat->Rat) (i:Nat):Rat:=(T.cell i 0:Rat)+zJ n fun k=>(T.cell i (k+1):Rat)*x (T.other k)
def zk.Sol (T:zk) (m n:Nat) (x:Nat->Rat):Prop:=∀ i,i<m->(T.den:Rat)*x (T.basic i)=T.tell n x i
section
variable {T:zk} {m n r c:Nat} {x:Nat->Rat}
theorem zk.tell_split (hc:c<n) (i:Nat):T.tell n x i=(T.cell i 0:Rat)+(T.cell i (c+1):Rat)*x (T.other c)+zJ n fun k=>if k=c then 0 else (T.cell i (k+1):Rat)*x (T.other k):=by
 unfold zk.tell
 rw [Y1 hc]
 grind
def zk.bareTell (T:zk) (r c n:Nat) (x:Nat->Rat) (i:Nat):Rat:=(T.bare r c i 0:Rat)+zJ n fun k=>(T.bare r c i (k+1):Rat)*x ((T.pivot r c).other k)
theorem zk.pivot_tell (h0:0<c) (i:Nat):(T.pivot r c).tell n x i=(if T.cell r c<0 then -1 else 1)*T.bareTell r c n x i:=by
 unfold zk.tell zk.bareTell
 by_cases e:T.cell r c<0
 rotate_left
 . rw [if_neg e,zk.pivot_cell,if_neg e]
   have:(zJ n fun k=>((T.pivot r c).cell i (k+1):Rat)*x ((T.pivot r c).other k))=(zJ n fun k=>(T.bare r c i (k+1):Rat)*x ((T.pivot r c).other k)):=by
    apply zw
    intro k b;rw [zk.pivot_cell,if_neg e]
   rw [this]
   grind
 rw [if_pos e,zk.pivot_cell,if_pos e]
 have:(zJ n fun k=>((T.pivot r c).cell i (k+1):Rat)*x ((T.pivot r c).other k))= -1*(zJ n fun k=>(T.bare r c i (k+1):Rat)*x ((T.pivot r c).other k))+0*zJ n (fun _=>0):=by
  rw [<- ZE]
  apply zw
  intro k b;rw [zk.pivot_cell,if_pos e]
  push_cast
  grind
 rw [this]
 push_cast
 grind
theorem zk.bareTell_split (hc:c<n) (i:Nat):T.bareTell r (c+1) n x i=(T.bare r (c+1) i 0:Rat)+(T.bare r (c+1) i (c+1):Rat)*x (T.basic r)+zJ n fun k=>if k=c then 0 else (T.bare r (c+1) i (k+1):Rat)*x (T.other k):=by
 unfold zk.bareTell
 rw [Y1 hc]
 have e:∀ k,(T.pivot r (c+1)).other k=if k=c then T.basic r else T.other k:=fun k=>rfl
 have b:(zJ n fun j=>if j=c then 0 else (T.bare r (c+1) i (j+1):Rat)*x ((T.pivot r (c+1)).other j))=zJ n fun k=>if k=c then 0 else (T.bare r (c+1) i (k+1):Rat)*x (T.other k):=by
  apply zw
  intro k l
  by_cases h:k=c
  . rw [if_pos h,if_pos h]
  rw [if_neg h,if_neg h,e,if_neg h]
 rw [b,e,if_pos rfl]
 grind
theorem zk.row_same (hc:c<n) (hp:T.cell r (c+1)≠0):(T.cell r (c+1):Rat)*x (T.other c)=T.bareTell r (c+1) n x r↔(T.den:Rat)*x (T.basic r)=T.tell n x r:=by
 rw [zk.bareTell_split hc,zk.tell_split hc,zk.bare_r (by omega),zk.bare_rc]
 have b:(zJ n fun k=>if k=c then 0 else (T.bare r (c+1) r (k+1):Rat)*x (T.other k))= -1*(zJ n fun k=>if k=c then 0 else (T.cell r (k+1):Rat)*x (T.other k))+0*zJ n (fun _=>0):=by
  rw [<- ZE]
  apply zw
  intro k e
  by_cases h:k=c
  . simp only [if_pos h];grind
  simp only [if_neg h];rw [zk.bare_r (by omega)];push_cast;grind
 rw [b]
 push_cast
 constructor<;>intro h<;>grind
theorem zk.other_same {i:Nat} (hc:c<n) (hd:T.den≠0) (hp:T.cell r (c+1)≠0) (hi:i≠r) (hb:∀ k,k<n+1->k≠c+1->T.den*T.bare r (c+1) i k=T.cell i k*T.cell r (c+1) - T.cell i (c+1)*T.cell r k)
 (hr:(T.den:Rat)*x (T.basic r)=T.tell n x r) (y:Rat):(T.cell r (c+1):Rat)*y=T.bareTell r (c+1) n x i↔(T.den:Rat)*y=T.tell n x i:=by
 rw [zk.tell_split hc] at hr
 rw [zk.bareTell_split hc,zk.tell_split hc,zk.bare_c hi]
 have m :(T.den:Rat)≠0:=by exact_mod_cast hd
 have l :(T.cell r (c+1):Rat)≠0:=by exact_mod_cast hp
 have e :∀ k,k<n+1->k≠c+1->(T.den:Rat)*(T.bare r (c+1) i k:Rat)=(T.cell i k:Rat)*(T.cell r (c+1):Rat) - (T.cell i (c+1):Rat)*(T.cell r k:Rat):=by
  intro k b h
  have:=hb k b h
  exact_mod_cast this
 have z:(T.den:Rat)*(zJ n fun k=>if k=c then 0 else (T.bare r (c+1) i (k+1):Rat)*x (T.other k))=(T.cell r (c+1):Rat)*(zJ n fun k=>if k=c then 0 else (T.cell i (k+1):Rat)*x (T.other k))+ -(T.cell i (c+1):Rat)*(zJ n fun k=>if k=c then 0 else (T.cell r (k+1):Rat)*x (T.other k)):=by
  rw [<- ZE]
  have:=ZE (n:=n) (f:=fun k=>if k=c then 0 else (T.bare r (c+1) i (k+1):Rat)*x (T.other k)) (g:=fun _=>0) (T.den:Rat) 0
  rw [show (T.den:Rat)*(zJ n fun k=>if k=c then 0 else (T.bare r (c+1) i (k+1):Rat)*x (T.other k))=(T.den:Rat)*(zJ n fun k=>if k=c then 0 else (T.bare r (c+1) i (k+1):Rat)*x (T.other k))+0*zJ n (fun _=>0) by grind, <- this]
  apply zw
  intro k b
  by_cases h:k=c
  . simp only [if_pos h];grind
  simp only [if_neg h]
  have:=e (k+1) (by omega) (by omega);generalize x (T.other k)=X at*;generalize (T.bare r (c+1) i (k+1):Rat)=Y at*
  grind
 have u:=e 0 (by omega) (by omega)
 generalize (zJ n fun k=>if k=c then 0 else (T.bare r (c+1) i (k+1):Rat)*x (T.other k))=S at*
 generalize (zJ n fun k=>if k=c then 0 else (T.cell i (k+1):Rat)*x (T.other k))=Si at*
 generalize (zJ n fun k=>if k=c then 0 else (T.cell r (k+1):Rat)*x (T.other k))=Sr at*
 generalize (T.bare r (c+1) i 0:Rat)=B0 at*
 generalize x (T.basic r)=XB at*
 generalize x (T.other c)=XC at*
 generalize (T.den:Rat)=D at*
 generalize (T.cell r (c+1):Rat)=P at*
 generalize (T.cell i (c+1):Rat)=F at*
 generalize (T.cell i 0:Rat)=I0 at*
 generalize (T.cell r 0:Rat)=R0 at*
 have key:D*(B0+F*XB+S)=P*(I0+F*XC+Si):=by grind
 constructor
 . intro h
   have j:P*(D*y)=P*(I0+F*XC+Si):=by rw [<- key, <- h];grind
   grind
 intro h
 have j:D*(P*y)=D*(B0+F*XB+S):=by rw [key, <- h];grind
 grind
end
theorem zrs {n:Nat} {f:Nat->Rat} (h:0<zJ n f):∃ k,k<n/\0<f k:=by
 induction n with
 | zero=>exact absurd h (by unfold zJ;grind)
 | succ n ih=>
   unfold zJ at h
   by_cases e:0<f n
   . exact ⟨n,by omega,e⟩
   obtain ⟨k,j,b⟩:=ih (by grind)
   exact ⟨k,by omega,b⟩
structure zk.Perm (m n:Nat) (T:zk):Prop where
 bb:∀ i j,i<m->j<m->T.basic i=T.basic j->i=j
 oo:∀ k l,k<n->l<n->T.other k=T.other l->k=l
 bo:∀ i k,i<m->k<n->T.basic i≠T.other k
 bl:∀ i,i<m->T.basic i<m+n
 ol:∀ k,k<n->T.other k<m+n
 cov:∀ u,u<m+n->(∃ i,i<m/\T.basic i=u)\/∃ k,k<n/\T.other k=u
section
variable {m n:Nat} {T:zk}
theorem zk.Perm.pivot (h:T.Perm m n) {r c:Nat} (hr:r<m) (h0:0<c) (hc:c<=n):(T.pivot r c).Perm m n:=by
 have eb:∀ j,(T.pivot r c).basic j=if j=r then T.other (c - 1) else T.basic j:=fun j=>rfl
 have y:∀ j,(T.pivot r c).other j=if j=c - 1 then T.basic r else T.other j:=fun j=>rfl
 refine ⟨fun i j hi hj e=>?_,fun k l b hl e=>?_,fun i k hi b e=>?_,fun i hi=>?_,fun k b=>?_,fun u hu=>?_⟩
 . rw [eb,eb] at e
   split at e<;>split at e
   . omega
   . exact absurd e.symm (h.bo j (c - 1) hj (by omega))
   . exact absurd e (h.bo i (c - 1) hi (by omega))
   . exact h.bb i j hi hj e
 . rw [y,y] at e
   split at e<;>split at e
   . omega
   . exact absurd e (h.bo r l hr hl)
   . exact absurd e.symm (h.bo r k hr b)
   . exact h.oo k l b hl e
 . rw [eb,y] at e
   split at e<;>split at e
   . exact absurd e.symm (h.bo r (c - 1) hr (by omega))
   . rename_i C B
     exact B (h.oo (c - 1) k (by omega) b e).symm
   . rename_i C B
     exact C (h.bb i r hi hr e)
   . exact absurd e (h.bo i k hi b)
 . rw [eb];split
   . exact h.ol _ (by omega)
   exact h.bl i hi
 . rw [y];split
   . exact h.bl r hr
   exact h.ol k b
 . rcases h.cov u hu with ⟨i,hi,e⟩ | ⟨k,b,e⟩
   . by_cases z:i=r
     . subst z;exact .inr ⟨c - 1,by omega,by rw [y,if_pos rfl,e]⟩
     exact .inl ⟨i,hi,by rw [eb,if_neg z,e]⟩
   . by_cases z:k=c - 1
     . subst z;exact .inl ⟨r,hr,by rw [eb,if_pos rfl,e]⟩
     exact .inr ⟨k,b,by rw [y,if_neg z,e]⟩
theorem zk.Perm.point (h:T.Perm m n) (hd:T.den≠0) (v:Nat->Rat):∃ x:Nat->Rat,T.Sol m n x/\∀ k,k<n->x (T.other k)=v k:=by
 classical
 let row:Nat->Rat:=fun i=>((T.cell i 0:Rat)+zJ n fun k=>(T.cell i (k+1):Rat)*v k) / (T.den:Rat)
 let x:Nat->Rat:=fun u=>if h:∃ i,i<m/\T.basic i=u then row h.choose else if h2:∃ k,k<n/\T.other k=u then v h2.choose else 0
 have y:∀ k,k<n->x (T.other k)=v k:=by
  intro k r
  have z:¬ ∃ i,i<m/\T.basic i=T.other k:=fun ⟨i,hi,e⟩=>h.bo i k hi r e
  have b:∃ l,l<n/\T.other l=T.other k:=⟨k,r,rfl⟩
  show (if h:∃ i,i<m/\T.basic i=T.other k then row h.choose else if h2:∃ l,l<n/\T.other l=T.other k then v h2.choose else 0)=v k
  rw [dif_neg z,dif_pos b]
  have:=b.choose_spec
  rw [h.oo _ _ this.1 r this.2]
 refine ⟨x,fun i hi=>?_,y⟩
 have b:∃ j,j<m/\T.basic j=T.basic i:=⟨i,hi,rfl⟩
 have B:x (T.basic i)=row i:=by
  show (if h:∃ j,j<m/\T.basic j=T.basic i then row h.choose else if h2:∃ l,l<n/\T.other l=T.basic i then v h2.choose else 0)=row i
  rw [dif_pos b]
  have:=b.choose_spec
  rw [h.bb _ _ this.1 hi this.2]
 rw [B]
 have C :(T.den:Rat)≠0:=by exact_mod_cast hd
 have:T.tell n x i=(T.cell i 0:Rat)+zJ n fun k=>(T.cell i (k+1):Rat)*v k:=by
  unfold zk.tell
  congr 1
  apply zw
  intro k r
  rw [y k r]
 rw [this]
 show (T.den:Rat)*(((T.cell i 0:Rat)+zJ n fun k=>(T.cell i (k+1):Rat)*v k) / (T.den:Rat))=_
 grind
end
structure zk.Ok (M:Nat->Nat->Int) (b:Nat->Int) (g:Nat->Int) (m n:Nat) (T:zk):Prop where
 inv:T.Inv M b m (n+1)
 aim:T.Aim g m (n+1)
 perm:T.Perm m n
section
variable {M:Nat->Nat->Int} {b g:Nat->Int} {m n:Nat} {T:zk}
theorem zk.Ok.pivot (h:T.Ok M b g m n) {r c:Nat} (hr:r<m) (h0:0<c) (hc:c<=n) (hp:T.cell r c≠0):(T.pivot r c).Ok M b g m n:=
 ⟨h.inv.pivot hr h0 (by omega) hp,h.inv.aim h.aim hr h0 (by omega),h.perm.pivot hr h0 hc⟩
theorem zks {s a b:Rat} (hs:s=1\/s= -1):s*a=s*b↔a=b:=by
 rcases hs with rfl | rfl<;>grind
theorem zk.pivot_denR {r c:Nat}:((T.pivot r c).den:Rat)=(if T.cell r c<0 then -1 else 1)*(T.cell r c:Rat):=by
 rw [zk.pivot_den]
 by_cases e:T.cell r c<0
 . rw [if_pos e,if_pos e];push_cast;grind
 rw [if_neg e,if_neg e];grind
theorem zk.Ok.tellIff (h:T.Ok M b g m n) {r c:Nat} (hr:r<m) (h0:0<c) (hc:c<=n) (hp:T.cell r c≠0) {x:Nat->Rat} (hx:(T.den:Rat)*x (T.basic r)=T.tell n x r) {i:Nat} (hi:i<=m) (hir:i≠r) (y:Rat):
 ((T.pivot r c).den:Rat)*y=(T.pivot r c).tell n x i↔(T.den:Rat)*y=T.tell n x i:=by
 obtain ⟨c,rfl⟩:∃ c',c=c' +1:=⟨c - 1,by omega⟩
 have e:(if T.cell r (c+1)<0 then (-1:Rat) else 1)=1\/(if T.cell r (c+1)<0 then (-1:Rat) else 1)= -1:=by split<;>simp
 rw [zk.pivot_tell h0,zk.pivot_denR,Rat.mul_assoc,zks e]
 have hd:=h.inv.den
 exact zk.other_same (by omega) (by omega) hp hir (fun k hk hkc=>h.inv.bareAll h.aim hr h0 (by omega) hi hk hir hkc) hx y
theorem zk.Ok.rowIff (h:T.Ok M b g m n) {r c:Nat} (h0:0<c) (hc:c<=n) (hp:T.cell r c≠0) {x:Nat->Rat}:
 ((T.pivot r c).den:Rat)*x (T.other (c - 1))=(T.pivot r c).tell n x r↔(T.den:Rat)*x (T.basic r)=T.tell n x r:=by
 obtain ⟨c,rfl⟩:∃ c',c=c' +1:=⟨c - 1,by omega⟩
 have e:(if T.cell r (c+1)<0 then (-1:Rat) else 1)=1\/(if T.cell r (c+1)<0 then (-1:Rat) else 1)= -1:=by split<;>simp
 rw [zk.pivot_tell h0,zk.pivot_denR,Rat.mul_assoc,zks e]
 exact zk.row_same (by omega) hp
theorem zk.Ok.sol (h:T.Ok M b g m n) {r c:Nat} (hr:r<m) (h0:0<c) (hc:c<=n) (hp:T.cell r c≠0) {x:Nat->Rat}:(T.pivot r c).Sol m n x↔T.Sol m n x:=by
 have eb:∀ j,(T.pivot r c).basic j=if j=r then T.other (c - 1) else T.basic j:=fun j=>rfl
 constructor
 rotate_left
 . intro u i hi
   have l:=u r hr;rw [eb]
   by_cases e:i=r
   . subst e;rw [if_pos rfl];exact (h.rowIff h0 hc hp).2 l
   rw [if_neg e];exact (h.tellIff hr h0 hc hp l (by omega) e _).2 (u i hi)
 intro u
 have y:=u r hr;rw [eb,if_pos rfl] at y;have l:=(h.rowIff h0 hc hp).1 y;intro i hi
 by_cases e:i=r
 . subst e;exact l
 have z:=u i hi
 rw [eb,if_neg e] at z;exact (h.tellIff hr h0 hc hp l (by omega) e _).1 z
theorem zk.Ok.goal (h:T.Ok M b g m n) {r c:Nat} (hr:r<m) (h0:0<c) (hc:c<=n) (hp:T.cell r c≠0) {x:Nat->Rat} (hx:T.Sol m n x) (z:Rat):
 ((T.pivot r c).den:Rat)*z=(T.pivot r c).tell n x m↔(T.den:Rat)*z=T.tell n x m:=
 h.tellIff hr h0 hc hp (hx r hr) (uA) (by omega) z
end
theorem zk.enter_zero {T:zk} {m:Nat} {but:Int}:∀ {n:Nat},T.enter m but n=0->∀ k,k<n->(T.other k:Int)≠but->T.cell m (k+1)<=0
 | 0,_,k,hk,_=>by omega
 | n+1,h,k,hk,hb=>by
   unfold zk.enter at h
   split at h
   . omega
   rename_i b
   by_cases e:k=n
   rotate_left
   . exact zk.enter_zero h k (by omega) hb
   subst e
   rw [h] at b;have:¬ 0<T.cell m (k+1):=fun h2=>b ⟨hb,h2,.inl rfl⟩
   omega
theorem zk.enter_pos {T:zk} {m:Nat} {but:Int}:∀ {n c:Nat},T.enter m but n=c->0<c->c<=n/\(T.other (c - 1):Int)≠but/\0<T.cell m c/\∀ k,k<n->(T.other k:Int)≠but->0<T.cell m (k+1)->T.other (c - 1)<=T.other k
 | 0,c,h,h0=>by unfold zk.enter at h;omega
 | n+1,c,h,h0=>by
   unfold zk.enter at h
   split at h
   rotate_left
   . rename_i b
     obtain ⟨z,j,r,y⟩:=zk.enter_pos h h0;refine ⟨by omega,j,r,fun k hk hb hp=>?_⟩
     by_cases e:k=n
     rotate_left
     . exact y k (by omega) hb hp
     subst e
     have l:¬ (T.enter m but k=0\/T.other k<T.other (T.enter m but k - 1)):=fun l=>b ⟨hb,hp,l⟩
     rw [h] at l
     omega
   rename_i b
   subst h;refine ⟨uA,b.1,b.2.1,fun k hk hb hp=>?_⟩;have u:n+1 - 1=n:=rfl;rw [u]
   by_cases e:k=n
   . subst e;exact uA
   rcases b.2.2 with j | j
   . have:=zk.enter_zero j k (by omega) hb;omega
   . by_cases r:T.enter m but n=0
     . have:=zk.enter_zero r k (by omega) hb;omega
     have:=(zk.enter_pos rfl (by omega:0<T.enter m but n)).2.2.2 k (by omega) hb hp
     omega
def zk.le (T:zk) (room c j i:Nat):Prop:=
 T.cell j 0* -(T.cell i c)<T.cell i 0* -(T.cell j c)\/(T.cell j 0* -(T.cell i c)=T.cell i 0* -(T.cell j c)/\(T.basic j=room\/(T.basic i≠room/\T.basic j<=T.basic i)))
theorem zk.le_of_not {T:zk} {room c i j:Nat} (h:¬ T.ahead room c i j):T.le room c j i:=by
 unfold zk.ahead at h
 unfold zk.le
 omega
theorem zk.le_of {T:zk} {room c i j:Nat} (h:T.ahead room c i j):T.le room c i j:=by
 unfold zk.ahead at h
 unfold zk.le
 omega
theorem znx {a b c p q r:Int} (hp:0<p) (hq:0<q) (hr:0<r) (h1:a*q<=b*p) (h2:b*r<=c*q):a*r<=c*p/\((a*q<b*p\/b*r<c*q)->a*r<c*p):=by
 have j:(a*q)*r<=(b*p)*r:=Int.mul_le_mul_of_nonneg_right h1 (by omega)
 have u:(b*r)*p<=(c*q)*p:=Int.mul_le_mul_of_nonneg_right h2 (by omega)
 have l:(a*q)*r=(a*r)*q:=by ac_rfl
 have m:(b*p)*r=(b*r)*p:=by ac_rfl
 have e:(c*q)*p=(c*p)*q:=by ac_rfl
 refine ⟨Int.le_of_mul_le_mul_right (a:=q) (by omega) hq,fun h=>?_⟩
 apply Int.lt_of_mul_lt_mul_right (a:=q) _ (by omega)
 rcases h with h | h
 . have:=Int.mul_lt_mul_of_pos_right h hr;omega
 . have:=Int.mul_lt_mul_of_pos_right h hp;omega
theorem zk.le_trans {T:zk} {room c i j k:Nat} (hi:T.cell i c<0) (hj:T.cell j c<0) (hk:T.cell k c<0) (h1:T.le room c i j) (h2:T.le room c j k):T.le room c i k:=by
 unfold zk.le at h1 h2 |-
 have:=znx (a:=T.cell i 0) (b:=T.cell j 0) (c:=T.cell k 0) (p:= -(T.cell i c)) (q:= -(T.cell j c)) (r:= -(T.cell k c)) (by omega) (by omega) (by omega) (by omega) (by omega)
 omega
theorem zk.leave_nil {T:zk} {room c:Nat}:∀ {n:Nat},T.leave room c n=none->∀ i,i<n->0<=T.cell i c
 | 0,_,i,hi=>by omega
 | n+1,h,i,hi=>by
   unfold zk.leave at h
   split at h
   rotate_left
   . split at h
     . cases h
     split at h<;>cases h
   rename_i b
   by_cases e:i=n
   . subst e;exact b
   exact zk.leave_nil h i (by omega)
theorem zk.leave_some {T:zk} {room c:Nat}:∀ {n r:Nat},T.leave room c n=some r->r<n/\T.cell r c<0/\∀ i,i<n->T.cell i c<0->T.le room c r i
 | 0,r,h=>by cases h
 | n+1,r,h=>by
   have u:∀ j,T.le room c j j:=fun j=>by unfold zk.le;omega
   unfold zk.leave at h
   split at h
   . rename_i B
     obtain ⟨z,b,l⟩:=zk.leave_some h;refine ⟨by omega,b,fun i hi hci=>?_⟩
     by_cases e:i=n
     . subst e;omega
     exact l i (by omega) hci
   rename_i B
   split at h
   . rename_i C
     injection h with h
     subst h;refine ⟨by omega,by omega,fun i hi hci=>?_⟩
     by_cases e:i=n
     . subst e;exact u _
     have:=zk.leave_nil C i (by omega);omega
   rename_i j y
   obtain ⟨z,b,l⟩:=zk.leave_some y
   split at h
   . rename_i m
     injection h with h
     subst h;refine ⟨by omega,by omega,fun i hi hci=>?_⟩
     by_cases e:i=n
     . subst e;exact u _
     exact zk.le_trans (by omega) b hci (zk.le_of m) (l i (by omega) hci)
   rename_i m
   injection h with h
   subst h;refine ⟨by omega,b,fun i hi hci=>?_⟩
   by_cases e:i=n
   . subst e;exact zk.le_of_not m
   exact l i (by omega) hci
def zk.Feas (T:zk) (m:Nat):Prop:=∀ i,i<m->0<=T.cell i 0
section
variable {M:Nat->Nat->Int} {b g:Nat->Int} {m n:Nat} {T:zk}
theorem zk.Ok.feas (h:T.Ok M b g m n) (hf:T.Feas m) {r c room:Nat} (h0:0<c) (hc:c<=n) (hl:T.leave room c m=some r):(T.pivot r c).Feas m:=by
 obtain ⟨l,u,B⟩:=zk.leave_some hl
 have hd:=h.inv.den
 intro i hi
 rw [zk.pivot_cell,if_pos u]
 by_cases e:i=r
 . subst e;rw [zk.bare_r (by omega)];have:=hf i hi;omega
 have hb:=h.inv.bare l (by omega) hi (by omega:0<n+1) e (by omega:0≠c)
 have D:=hf i hi;have C:=hf r l
 have I:T.cell i 0*T.cell r c<=T.cell i c*T.cell r 0:=by
  by_cases F:T.cell i c<0
  rotate_left
  . have j:T.cell i 0*T.cell r c<=0:=Int.mul_nonpos_of_nonneg_of_nonpos D (by omega)
    have G:0<=T.cell i c*T.cell r 0:=Int.mul_nonneg (by omega) C
    omega
  have j:=B i hi F
  unfold zk.le at j;have y:T.cell r 0* -(T.cell i c)= -(T.cell i c*T.cell r 0):=by grind
  have z:T.cell i 0* -(T.cell r c)= -(T.cell i 0*T.cell r c):=by grind
  rw [y,z] at j
  omega
 have E:T.den*T.bare r c i 0<=T.den*0:=by rw [hb];omega
 have:=Int.le_of_mul_le_mul_left E hd
 omega
theorem zk.Ok.grows (h:T.Ok M b g m n) (hf:T.Feas m) {r c:Nat} (hr:r<m) (h0:0<c) (hc:c<=n) (hp:T.cell r c<0) (hm:0<T.cell m c):
 (T.cell m 0:Rat) / (T.den:Rat)<=((T.pivot r c).cell m 0:Rat) / ((T.pivot r c).den:Rat)/\(((T.pivot r c).cell m 0:Rat) / ((T.pivot r c).den:Rat)=(T.cell m 0:Rat) / (T.den:Rat)->T.cell r 0=0):=by
 have hd:=h.inv.den
 have hb:=h.inv.bareM h.aim hr h0 (by omega) (by omega:0<n+1) (by omega:0≠c)
 have u:=hf r hr
 rw [zk.pivot_cell,if_pos hp,zk.pivot_den,if_pos hp]
 have j:(0:Rat)<(T.den:Rat):=by exact_mod_cast hd
 have l:(0:Rat)< -(T.cell r c:Rat):=by
  have:(T.cell r c:Rat)<0:=by exact_mod_cast hp
  grind
 have E:(0:Rat)<(T.cell m c:Rat):=by exact_mod_cast hm
 have y:(0:Rat)<=(T.cell r 0:Rat):=by exact_mod_cast u
 have F:(T.den:Rat)*(T.bare r c m 0:Rat)=(T.cell m 0:Rat)*(T.cell r c:Rat) - (T.cell m c:Rat)*(T.cell r 0:Rat):=by exact_mod_cast hb
 push_cast
 generalize (T.den:Rat)=D at*
 generalize (T.bare r c m 0:Rat)=B at*
 generalize G:(T.cell r c:Rat)=P at*
 generalize (T.cell m 0:Rat)=Z at*
 generalize (T.cell m c:Rat)=Cm at*
 generalize z:(T.cell r 0:Rat)=R at*
 have J:D≠0:=by grind
 have K: -P≠0:=by grind
 have key: -B / -P=Z / D+(Cm*R) / (D* -P):=by grind
 have L:0<=(Cm*R) / (D* -P):=by
  rw [Rat.div_def]
  exact Rat.mul_nonneg (Rat.mul_nonneg (by grind) y) (Rat.le_of_lt (Rat.inv_pos.2 (Rat.mul_pos j l)))
 refine ⟨by rw [key];grind,fun e=>?_⟩
 rw [key] at e
 have I:(Cm*R) / (D* -P)=0:=by grind
 have C:R=0:=by
  have:D* -P≠0:=by have:=Rat.mul_pos j l;grind
  have:Cm≠0:=by grind
  grind
 have:(T.cell r 0:Rat)=((0:Int):Rat):=by rw [z,C];rfl
 exact_mod_cast this
end
structure Run (M:Nat->Nat->Int) (b g:Nat->Int) (m n room:Nat) (but:Int) (f:Nat->zk) (R C:Nat->Nat):Prop where
 ok:∀ j,(f j).Ok M b g m n
 feas:∀ j,(f j).Feas m
 ent:∀ j,(f j).enter m but n=C j
 pos:∀ j,0<C j
 lv:∀ j,(f j).leave room (C j) m=some (R j)
 nxt:∀ j,f (j+1)=(f j).pivot (R j) (C j)
 nr:∀ j,(f j).basic (R j)≠room
section
variable {M:Nat->Nat->Int} {b g:Nat->Int} {m n room:Nat} {but:Int} {f:Nat->zk} {R C:Nat->Nat}
def Bas (T:zk) (m u:Nat):Prop:=∃ i,i<m/\T.basic i=u
theorem Run.le (h:Run M b g m n room but f R C) (j:Nat):C j<=n:=(zk.enter_pos (h.ent j) (h.pos j)).1
theorem Run.ne (h:Run M b g m n room but f R C) (j:Nat):(f j).cell (R j) (C j)≠0:=by
 have:=(zk.leave_some (h.lv j)).2.1;omega
def zj0 (f:Nat->zk) (C:Nat->Nat) (j:Nat):Nat:=(f j).other (C j - 1)
theorem Run.basNext (h:Run M b g m n room but f R C) (j u:Nat):Bas (f (j+1)) m u↔u=zj0 f C j\/(Bas (f j) m u/\u≠(f j).basic (R j)):=by
 have r:=(zk.leave_some (h.lv j)).1
 have eb:∀ i,(f (j+1)).basic i=if i=R j then (f j).other (C j - 1) else (f j).basic i:=fun i=>by rw [h.nxt j];rfl
 unfold Bas zj0
 constructor
 rotate_left
 . rintro (e | ⟨⟨i,hi,e⟩,y⟩)
   . exact ⟨R j,r,by rw [eb,if_pos rfl,e]⟩
   . exact ⟨i,hi,by rw [eb,if_neg (fun l=>y (by rw [<- e,l])),e]⟩
 rintro ⟨i,hi,e⟩
 rw [eb] at e
 by_cases l:i=R j
 . rw [if_pos l] at e;exact .inl e.symm
 rw [if_neg l] at e
 exact .inr ⟨⟨i,hi,e⟩,fun e3=>l ((h.ok j).perm.bb i (R j) hi r (by rw [e,e3]))⟩
theorem Run.entrNot (h:Run M b g m n room but f R C) (j:Nat):¬ Bas (f j) m (zj0 f C j):=by
 rintro ⟨i,hi,e⟩
 have:=h.le j
 have:=h.pos j
 exact (h.ok j).perm.bo i (C j - 1) hi (by omega) e
theorem Run.entrBut (h:Run M b g m n room but f R C) (j:Nat):(zj0 f C j:Int)≠but:=(zk.enter_pos (h.ent j) (h.pos j)).2.1
theorem Run.entered (h:Run M b g m n room but f R C) {u i:Nat}:∀ d,¬ Bas (f i) m u->Bas (f (i+d)) m u->∃ j,i<=j/\j<i+d/\zj0 f C j=u
 | 0,h1,h2=>absurd h2 h1
 | d+1,h1,h2=>by
   rcases (h.basNext (i+d) u).1 h2 with e | ⟨e,_⟩
   . exact ⟨i+d,by omega,by omega,e.symm⟩
   . obtain ⟨j,a,b,c⟩:=Run.entered h d h1 e
     exact ⟨j,a,by omega,c⟩
theorem Run.left (h:Run M b g m n room but f R C) {u i:Nat}:∀ d,Bas (f i) m u->¬ Bas (f (i+d)) m u->∃ j,i<=j/\j<i+d/\(f j).basic (R j)=u
 | 0,h1,h2=>absurd h1 h2
 | d+1,h1,h2=>by
   by_cases e:Bas (f (i+d)) m u
   rotate_left
   . obtain ⟨j,a,b,c⟩:=Run.left h d h1 e
     exact ⟨j,a,by omega,c⟩
   by_cases l:u=(f (i+d)).basic (R (i+d))
   . exact ⟨i+d,by omega,by omega,l.symm⟩
   exact absurd ((h.basNext (i+d) u).2 (.inr ⟨e,l⟩)) h2
theorem Run.sol (h:Run M b g m n room but f R C) (x:Nat->Rat) (i:Nat):∀ d,(f (i+d)).Sol m n x↔(f i).Sol m n x
 | 0=>Iff.rfl
 | d+1=>by
   have e:i+(d+1)=i+d+1:=rfl;rw [e,h.nxt (i+d),(h.ok (i+d)).sol (zk.leave_some (h.lv (i+d))).1 (h.pos _) (h.le _) (h.ne _)];exact Run.sol h x i d
theorem Run.goal (h:Run M b g m n room but f R C) {x:Nat->Rat} (i:Nat) (hx:(f i).Sol m n x) (z:Rat):∀ d,((f (i+d)).den:Rat)*z=(f (i+d)).tell n x m↔((f i).den:Rat)*z=(f i).tell n x m
 | 0=>Iff.rfl
 | d+1=>by
   have e:i+(d+1)=i+d+1:=rfl;rw [e,h.nxt (i+d),(h.ok (i+d)).goal (zk.leave_some (h.lv (i+d))).1 (h.pos _) (h.le _) (h.ne _) ((h.sol x i d).2 hx)];exact Run.goal h i hx z d
def zoo (T:zk) (m:Nat):Rat:=(T.cell m 0:Rat) / (T.den:Rat)
theorem Run.mono (h:Run M b g m n room but f R C) (i:Nat):∀ d,zoo (f i) m<=zoo (f (i+d)) m
 | 0=>Rat.le_refl
 | d+1=>by
   have j:=Run.mono h i d;have e:=((h.ok (i+d)).grows (h.feas (i+d)) (zk.leave_some (h.lv (i+d))).1 (h.pos _) (h.le _) (zk.leave_some (h.lv (i+d))).2.1 (zk.enter_pos (h.ent (i+d)) (h.pos _)).2.2.1).1;rw [<- h.nxt (i+d)] at e;exact Rat.le_trans j e
theorem vZ {T:zk} {x:Nat->Rat} (hx:∀ k,k<n->x (T.other k)=0) (i:Nat):T.tell n x i=(T.cell i 0:Rat):=by
 unfold zk.tell
 rw [yC]
 . grind
 intro k b;rw [hx k b];grind
theorem Run.noCycle (h:Run M b g m n room but f R C) {a d:Nat} (hd:0<d) (hs:∀ u,Bas (f a) m u↔Bas (f (a+d)) m u):False:=by
 have J:∀ j,(0:Rat)<((f j).den:Rat):=fun j=>by have:=(h.ok j).inv.den;exact_mod_cast this
 obtain ⟨x,T,ab⟩:=(h.ok a).perm.point (by have:=(h.ok a).inv.den;omega) (fun _=>0)
 have aX:=(h.sol x a d).2 T
 have aI:∀ k,k<n->x ((f (a+d)).other k)=0:=by
  intro k B
  have hu:=(h.ok (a+d)).perm.ol k B
  rcases (h.ok a).perm.cov _ hu with ⟨i,hi,e⟩ | ⟨l,hl,e⟩
  . obtain ⟨i2,ar,I⟩:=(hs _).1 ⟨i,hi,e⟩
    exact absurd I ((h.ok (a+d)).perm.bo i2 k ar B)
  . rw [<- e];exact ab l hl
 have Z:zoo (f (a+d)) m=zoo (f a) m:=by
  have r:=(h.goal a T (zoo (f a) m) d).2 (by rw [vZ ab];unfold zoo;have:=J a;grind)
  rw [vZ aI] at r
  unfold zoo at*
  have:=J (a+d)
  grind
 have al:∀ e,e<d->(f (a+e)).cell (R (a+e)) 0=0:=by
  intro e N
  have r:=h.mono a e
  have E:=h.mono (a+e+1) (d - e - 1)
  have K:a+e+1+(d - e - 1)=a+d:=by omega
  rw [K] at E
  have Q:=(h.ok (a+e)).grows (h.feas (a+e)) (zk.leave_some (h.lv (a+e))).1 (h.pos _) (h.le _) (zk.leave_some (h.lv (a+e))).2.1 (zk.enter_pos (h.ent (a+e)) (h.pos _)).2.2.1
  rw [<- h.nxt (a+e)] at Q
  apply Q.2
  have h4:zoo (f (a+e)) m<=zoo (f (a+e+1)) m:=Q.1
  have:zoo (f (a+e+1)) m=zoo (f (a+e)) m:=by grind
  exact this
 have aa:∀ e,e<=d->∀ k,k<n->x ((f (a+e)).other k)=0:=by
  intro e
  induction e with
  | zero=>intro _;exact ab
  | succ e ih=>
    intro N k B;have ag :=ih (by omega);have eo:(f (a+e+1)).other k=if k=C (a+e) - 1 then (f (a+e)).basic (R (a+e)) else (f (a+e)).other k:=by rw [h.nxt (a+e)];rfl
    have K:a+(e+1)=a+e+1:=rfl;rw [K,eo]
    by_cases I:k=C (a+e) - 1
    rotate_left
    . rw [if_neg I];exact ag k B
    rw [if_pos I]
    have r:=(h.sol x a e).2 T (R (a+e)) (zk.leave_some (h.lv (a+e))).1;rw [vZ ag,al e (by omega)] at r;have:=J (a+e);have E:((0:Int):Rat)=0:=rfl;rw [E] at r
    grind
 have aN:∀ e,e<=d->∀ i,i<m->x ((f (a+e)).basic i)=0->(f (a+e)).cell i 0=0:=by
  intro e N i hi h0
  have r:=(h.sol x a e).2 T i hi
  rw [vZ (aa e N),h0] at r
  have:((f (a+e)).cell i 0:Rat)=((0:Int):Rat):=by rw [<- r];exact Rat.mul_zero _
  exact_mod_cast this
 obtain ⟨t,⟨q,hq,U⟩,ao⟩:∃ t,(∃ q,q<d/\zj0 f C (a+q)=t)/\∀ e,e<d->zj0 f C (a+e)<=t:=by
  have:∀ d',0<d' ->∃ t,(∃ q,q<d' /\zj0 f C (a+q)=t)/\∀ e,e<d' ->zj0 f C (a+e)<=t:=by
   intro d'
   induction d' with
   | zero=>intro h;omega
   | succ d' ih=>
     intro _
     by_cases e0:d' =0
     . subst e0
       exact ⟨zj0 f C (a+0),⟨0,by omega,rfl⟩,fun e N=>by rw [show e=0 by omega];exact uA⟩
     obtain ⟨t,⟨q,hq,U⟩,hm⟩:=ih (by omega)
     by_cases K:zj0 f C (a+d')<=t
     . exact ⟨t,⟨q,by omega,U⟩,fun e N=>by
        by_cases I:e=d'
        . subst I;exact K
        exact hm e (by omega)⟩
     exact ⟨zj0 f C (a+d'),⟨d',by omega,rfl⟩,fun e N=>by
      by_cases I:e=d'
      . subst I;exact uA
      have:=hm e (by omega);omega⟩
  exact this d hd
 have aH:∀ u p D,p<=d->D <=d->Bas (f (a+p)) m u->¬ Bas (f (a+D)) m u->∃ e,e<d/\zj0 f C (a+e)=u:=by
  intro u p D hp aY r E
  by_cases e:D <p
  . obtain ⟨j,Y,j2,F⟩:=h.entered (i:=a+D) (p - D) E (by rw [show a+D +(p - D)=a+p by omega];exact r)
    exact ⟨j - a,by omega,by rw [show a+(j - a)=j by omega];exact F⟩
  by_cases V:Bas (f a) m u
  . obtain ⟨j,Y,j2,F⟩:=h.entered (i:=a+D) (d - D) E (by rw [show a+D +(d - D)=a+d by omega];exact (hs u).1 V)
    exact ⟨j - a,by omega,by rw [show a+(j - a)=j by omega];exact F⟩
  obtain ⟨j,Y,j2,F⟩:=h.entered (i:=a) p V r
  exact ⟨j - a,by omega,by rw [show a+(j - a)=j by omega];exact F⟩
 obtain ⟨p,hp,ep⟩:∃ p,p<d/\(f (a+p)).basic (R (a+p))=t:=by
  have hn:¬ Bas (f (a+q)) m t:=by rw [<- U];exact h.entrNot (a+q)
  have hy:Bas (f (a+q+1)) m t:=(h.basNext (a+q) t).2 (.inl U.symm)
  by_cases V:Bas (f a) m t
  . obtain ⟨j,Y,j2,F⟩:=h.left (i:=a) q V hn
    exact ⟨j - a,by omega,by rw [show a+(j - a)=j by omega];exact F⟩
  obtain ⟨j,Y,j2,F⟩:=h.left (i:=a+q+1) (d - q - 1) hy (by rw [show a+q+1+(d - q - 1)=a+d by omega];exact fun E=>V ((hs t).2 E))
  exact ⟨j - a,by omega,by rw [show a+(j - a)=j by omega];exact F⟩
 obtain ⟨am,aJ,aE⟩:=zk.leave_some (h.lv (a+p))
 obtain ⟨a1,aP,aw,_⟩:=zk.enter_pos (h.ent (a+p)) (h.pos (a+p))
 obtain ⟨aZ,aW,ay,ai⟩:=zk.enter_pos (h.ent (a+q)) (h.pos (a+q))
 have a0:=h.pos (a+p)
 have aU:=h.pos (a+q)
 obtain ⟨y,hy,ae⟩:=(h.ok (a+p)).perm.point (by have:=(h.ok (a+p)).inv.den;omega) (fun k=>if k=C (a+p) - 1 then 1 else 0)
 have aR:∀ z:Nat->Rat,(f (a+p)).Sol m n z->(f (a+q)).Sol m n z:=fun z Z=>(h.sol z a q).2 ((h.sol z a p).1 Z)
 have ax:=(h.sol x a p).2 T
 have ak:∀ z:Nat->Rat,(f (a+p)).Sol m n z->∀ v,((f (a+q)).den:Rat)*v=(f (a+q)).tell n z m↔((f (a+p)).den:Rat)*v=(f (a+p)).tell n z m:=by
  intro z Z v
  have aj:=(h.sol z a p).1 Z
  rw [h.goal a aj v q,h.goal a aj v p]
 have aq:(f (a+p)).tell n x m=((f (a+p)).cell m 0:Rat):=vZ (aa p (by omega)) m
 have aK:(f (a+q)).tell n x m=((f (a+q)).cell m 0:Rat):=vZ (aa q (by omega)) m
 have ah:∀ i,(f (a+p)).tell n y i=((f (a+p)).cell i 0:Rat)+((f (a+p)).cell i (C (a+p)):Rat):=by
  intro i
  unfold zk.tell
  rw [vu (a:=C (a+p) - 1) (by omega)]
  . rw [ae _ (by omega),if_pos rfl,show C (a+p) - 1+1=C (a+p) by omega];grind
  intro k B ap;rw [ae k B,if_neg ap];grind
 have aG:0<zJ n fun k=>((f (a+q)).cell m (k+1):Rat)*y ((f (a+q)).other k):=by
  have g1:=(ak x ax (((f (a+p)).cell m 0:Rat) / ((f (a+p)).den:Rat))).2 (by rw [aq];have:=J (a+p);grind)
  have g2:=(ak y hy ((((f (a+p)).cell m 0:Rat)+((f (a+p)).cell m (C (a+p)):Rat)) / ((f (a+p)).den:Rat))).2 (by rw [ah];have:=J (a+p);grind)
  rw [aK] at g1
  unfold zk.tell at g2
  have au:(0:Rat)<((f (a+p)).cell m (C (a+p)):Rat):=by exact_mod_cast aw
  have d1:=J (a+p)
  have d2:=J (a+q)
  generalize (zJ n fun k=>((f (a+q)).cell m (k+1):Rat)*y ((f (a+q)).other k))=S at*
  generalize ((f (a+p)).den:Rat)=D1 at*
  generalize ((f (a+q)).den:Rat)=D2 at*
  generalize ((f (a+p)).cell m 0:Rat)=Z1 at*
  generalize ((f (a+q)).cell m 0:Rat)=Z2 at*
  generalize ((f (a+p)).cell m (C (a+p)):Rat)=Cp at*
  have hS:S=D2*(Cp / D1):=by
   have K:(Z1+Cp) / D1=Z1 / D1+Cp / D1:=by grind
   rw [K,Rat.mul_add,g1] at g2
   grind
  rw [hS,Rat.div_def]
  exact Rat.mul_pos d2 (Rat.mul_pos au (Rat.inv_pos.2 d1))
 obtain ⟨k,B,L⟩:=zrs aG
 generalize hu:(f (a+q)).other k=u at L
 have aO:¬ Bas (f (a+q)) m u:=by
  rintro ⟨i,hi,e⟩
  exact (h.ok (a+q)).perm.bo i k hi B (by rw [e,hu])
 have aF:((f (a+q)).cell m (k+1):Rat)≠0:=by intro e;rw [e] at L;grind
 have ht:t=(f (a+q)).other (C (a+q) - 1):=U.symm
 rcases (h.ok (a+p)).perm.cov u (by rw [<- hu];exact (h.ok (a+q)).perm.ol k B) with ⟨i,hi,e⟩ | ⟨l,hl,e⟩
 ·
  obtain ⟨e',av,X⟩:=aH u p q (by omega) (by omega) ⟨i,hi,e⟩ aO
  have ad:(u:Int)≠but:=by rw [<- X];exact h.entrBut _
  have aT:u<=t:=by rw [<- X];exact ao e' av
  have aM:x u=0:=by rw [<- hu];exact aa q (by omega) k B
  have af:(f (a+p)).cell i 0=0:=aN p (by omega) i hi (by rw [e];exact aM)
  have aQ:((f (a+p)).den:Rat)*y u=((f (a+p)).cell i (C (a+p)):Rat):=by
   have:=hy i hi;rw [ah i,af,e] at this;rw [this];have E:((0:Int):Rat)=0:=rfl;rw [E];grind
  have d1:=J (a+p)
  by_cases an:u=t
  ·
   have aA:k=C (a+q) - 1:=(h.ok (a+q)).perm.oo k _ B (by omega) (by rw [hu,an,ht]);have aC:i=R (a+p):=(h.ok (a+p)).perm.bb i _ hi am (by rw [e,ep,an]);rw [aA,show C (a+q) - 1+1=C (a+q) by omega] at L;have q1:(0:Rat)<((f (a+q)).cell m (C (a+q)):Rat):=by exact_mod_cast ay
   have q2:((f (a+p)).cell i (C (a+p)):Rat)<0:=by rw [aC];exact_mod_cast aJ
   have q3:0<y u:=by
    apply Decidable.byContradiction
    intro G;have:=Rat.mul_nonneg (Rat.le_of_lt q1) (by grind:0<= -(y u))
    grind
   have:=Rat.mul_pos d1 q3
   grind
  . have aS:u<t:=by omega
    have az:((f (a+q)).cell m (k+1))<0:=by
     have r:¬ 0<(f (a+q)).cell m (k+1):=by
      intro G;have:=ai k B (by rw [hu];exact ad) G;rw [hu, <- ht] at this
      omega
     have E:(f (a+q)).cell m (k+1)≠0:=by exact_mod_cast aF
     omega
    have aV:((f (a+q)).cell m (k+1):Rat)<0:=by exact_mod_cast az
    have a2:y u<0:=by
     apply Decidable.byContradiction
     intro G;have:=Rat.mul_nonneg (by grind:0<= -((f (a+q)).cell m (k+1):Rat)) (by grind:0<=y u)
     grind
    have aL:((f (a+p)).cell i (C (a+p)):Rat)<0:=by
     have:=Rat.mul_pos d1 (by grind:0< -(y u))
     grind
    have aD:(f (a+p)).cell i (C (a+p))<0:=by exact_mod_cast aL
    have ac:=aE i hi aD;unfold zk.le at ac;rw [af,al p hp,Int.zero_mul,Int.zero_mul,ep,e] at ac;have aB:t≠room:=by rw [<- ep];exact h.nr (a+p)
    rcases ac with G | ⟨_,G | G⟩
    . omega
    . exact aB G
    . omega
 ·
  have O:=ae l hl
  rw [e] at O
  by_cases el:l=C (a+p) - 1
  rotate_left
  . rw [if_neg el] at O
    rw [O] at L
    grind
  rw [if_pos el] at O
  rw [O,Rat.mul_one] at L;have G:0<(f (a+q)).cell m (k+1):=by exact_mod_cast L
  have X:zj0 f C (a+p)=u:=by unfold zj0;rw [<- el,e]
  have ad:(u:Int)≠but:=by rw [<- X];exact h.entrBut _
  have r:=ai k B (by rw [hu];exact ad) G;rw [hu, <- ht] at r;have E:u<=t:=by rw [<- X];exact ao p hp
  have Q:u=t:=by omega
  exact (h.ok (a+p)).perm.bo (R (a+p)) l am hl (by rw [ep,e,Q])
end
theorem zs3:∀ (N:Nat) (f:Nat->Nat),(∀ j,j<=N->f j<N)->∃ i j,i<j/\j<=N/\f i=f j
 | 0,f,h=>absurd (h 0 (uA)) (by omega)
 | N+1,f,h=>by
   by_cases e:∃ i,i<=N/\f i=f (N+1)
   . obtain ⟨i,hi,e⟩:=e;exact ⟨i,N+1,by omega,uA,e⟩
   have b:∀ i,i<=N->f i≠f (N+1):=fun i hi e2=>e ⟨i,hi,e2⟩
   have B:=h (N+1) (uA)
   obtain ⟨i,j,y,r,l⟩:=zs3 N (fun j=>if f j=N then f (N+1) else f j) (by
    intro j m;have u:=h j (by omega);have z:=b j m
    split<;>omega)
   have u:=b i (by omega);have z:=b j r;refine ⟨i,j,y,by omega,?_⟩
   split at l<;>split at l<;>omega
open Classical in
noncomputable def enc (P:Nat->Prop):Nat->Nat
 | 0=>0
 | n+1=>2*enc P n+if P n then 1 else 0
theorem zsm (P:Nat->Prop):∀ n,enc P n<2 ^ n
 | 0=>Nat.zero_lt_one
 | n+1=>by
   have:=zsm P n;have e:2 ^ (n+1)=2*2 ^ n:=by rw [Nat.pow_succ,uH]
   unfold enc
   split<;>omega
theorem zs5 {P Q:Nat->Prop}:∀ {n},enc P n=enc Q n->∀ u,u<n->(P u↔Q u)
 | 0,_,u,hu=>by omega
 | n+1,h,u,hu=>by
   unfold enc at h
   by_cases e:u=n
   rotate_left
   . refine zs5 (n:=n) ?_ u (by omega)
     split at h<;>split at h<;>omega
   subst e
   by_cases j:P u<;>by_cases b:Q u
   . exact ⟨fun _=>b,fun _=>j⟩
   . rw [if_pos j,if_neg b] at h;omega
   . rw [if_neg j,if_pos b] at h;omega
   . exact ⟨fun h=>absurd h j,fun h=>absurd h b⟩
section
variable {M:Nat->Nat->Int} {b g:Nat->Int} {m n room:Nat} {but:Int}
theorem Run.never {f:Nat->zk} {R C:Nat->Nat} (h:Run M b g m n room but f R C):False:=by
 obtain ⟨i,j,r,_,l⟩:=zs3 (2 ^ (m+n)) (fun j=>enc (Bas (f j) m) (m+n)) (fun j _=>zsm _ _)
 have hb:∀ j u,Bas (f j) m u->u<m+n:=fun j u ⟨i,hi,e⟩=>by rw [<- e];exact (h.ok j).perm.bl i hi
 refine h.noCycle (a:=i) (d:=j - i) (by omega) fun u=>?_
 rw [show i+(j - i)=j by omega]
 by_cases hu:u<m+n
 . exact zs5 l u hu
 exact ⟨fun h1=>absurd (hb i u h1) hu,fun h1=>absurd (hb j u h1) hu⟩
def zk.nxt (T:zk) (m n room:Nat) (but:Int):zk:=T.pivot ((T.leave room (T.enter m but n) m).getD 0) (T.enter m but n)
def zk.goes (T:zk) (m n room:Nat) (but:Int):Prop:=0<T.enter m but n/\T.leave room (T.enter m but n) m≠none
def Vi (T:zk) (m n room:Nat) (but:Int):Nat->zk
 | 0=>T
 | j+1=>(Vi T m n room but j).nxt m n room but
structure zk.AtEnd (T:zk) (m n room:Nat) (but:Int) (d:Nat):Prop where
 ent:T.enter m but n=d
 lv:0<d->T.leave room d m=none
theorem zeq (Q:zk->Prop) (T:zk) (hT:T.Ok M b g m n) (hf:T.Feas m) (hQ:Q T) (hfit:∀ U:zk,U.Ok M b g m n->U.Fits m (n+1))
 (hstep:∀ (U:zk) (c r:Nat),U.Ok M b g m n->Q U->0<c->U.enter m but n=c->U.leave room c m=some r->Q (U.pivot r c))
 (hroom:∀ (U:zk) (c r:Nat),U.Ok M b g m n->Q U->0<c->U.enter m but n=c->U.leave room c m=some r->U.basic r=room->(U.pivot r c).enter m but n=0):
 ∃ U d,vU m (n+1) room but T U d/\U.Ok M b g m n/\U.Feas m/\Q U/\U.AtEnd m n room but d:=by
 have keep:∀ U:zk,U.goes m n room but->∃ r,U.leave room (U.enter m but n) m=some r/\U.nxt m n room but=U.pivot r (U.enter m but n):=by
  intro U l
  rcases h:U.leave room (U.enter m but n) m with _ | r
  . exact absurd h l.2
  . exact ⟨r,rfl,by unfold zk.nxt;rw [h];rfl⟩
 have inv:∀ U:zk,U.Ok M b g m n->U.Feas m->Q U->U.goes m n room but->(U.nxt m n room but).Ok M b g m n/\(U.nxt m n room but).Feas m/\Q (U.nxt m n room but):=by
  intro U u B y l
  obtain ⟨r,hl,e⟩:=keep U l
  have N:=(zk.enter_pos (rfl:U.enter m but n=_) l.1).1
  have X:=zk.leave_some hl
  rw [e]
  exact ⟨u.pivot X.1 l.1 N (by omega),u.feas B l.1 N hl,hstep U _ r u y l.1 rfl hl⟩
 have D:∀ j,(∀ i,i<j->(Vi T m n room but i).goes m n room but)->(Vi T m n room but j).Ok M b g m n/\(Vi T m n room but j).Feas m/\Q (Vi T m n room but j):=by
  intro j
  induction j with
  | zero=>intro _;exact ⟨hT,hf,hQ⟩
  | succ j ih=>
    intro l;obtain ⟨u,B,y⟩:=ih fun i hi=>l i (by omega)
    exact inv _ u B y (l j (by omega))
 by_cases J:∃ j,¬ (Vi T m n room but j).goes m n room but
 ·
  obtain ⟨j,F,G⟩:∃ j,¬ (Vi T m n room but j).goes m n room but/\∀ i,i<j->(Vi T m n room but i).goes m n room but:=by
   obtain ⟨j,F⟩:=J
   have:∀ j,¬ (Vi T m n room but j).goes m n room but->∃ j,¬ (Vi T m n room but j).goes m n room but/\∀ i,i<j->(Vi T m n room but i).goes m n room but:=by
    intro j
    induction j using Nat.strongRecOn with
    | ind j ih=>
      intro F
      by_cases e:∃ i,i<j/\¬ (Vi T m n room but i).goes m n room but
      . obtain ⟨i,hi,e⟩:=e;exact ih i hi e
      exact ⟨j,F,fun i hi=>Classical.byContradiction fun h=>e ⟨i,hi,h⟩⟩
   exact this j F
  obtain ⟨u,B,y⟩:=D j G
  have O:∃ d,vU m (n+1) room but (Vi T m n room but j) (Vi T m n room but j) d/\(Vi T m n room but j).AtEnd m n room but d:=by
   generalize Vi T m n room but j=U at*
   by_cases e:U.enter m but n=0
   . exact ⟨0,vU.top U e,⟨e,fun h=>by omega⟩⟩
   have E:U.leave room (U.enter m but n) m=none:=Classical.byContradiction fun h=>F ⟨by omega,h⟩
   exact ⟨U.enter m but n,vU.free U _ (by omega) rfl E,⟨rfl,fun _=>E⟩⟩
  obtain ⟨d,hd,V⟩:=O
  refine ⟨_,d,?_,u,B,y,V⟩
  have S:∀ i,i<=j->vU m (n+1) room but (Vi T m n room but (j - i)) (Vi T m n room but j) d:=by
   intro i
   induction i with
   | zero=>intro _;exact hd
   | succ i ih=>
     intro hi;have I:=ih (by omega);have l:=G (j - (i+1)) (by omega);obtain ⟨r,hl,e⟩:=keep _ l
     have E:Vi T m n room but (j - i)=(Vi T m n room but (j - (i+1))).nxt m n room but:=by
      rw [show j - i=j - (i+1)+1 by omega];rfl
     rw [E,e] at I;have K:=(D (j - i) fun i' hi' =>G i' (by omega)).1;rw [E,e] at K;exact vU.step _ _ _ _ r l.1 rfl hl (hfit _ K) I
  have:=S j (uA)
  rw [Nat.sub_self] at this
  exact this
 . have z:∀ j,(Vi T m n room but j).goes m n room but:=fun j=>Classical.byContradiction fun h=>J ⟨j,h⟩
   exfalso
   have L:∀ j,(Vi T m n room but j).leave room ((Vi T m n room but j).enter m but n) m=some (((Vi T m n room but j).leave room ((Vi T m n room but j).enter m but n) m).getD 0):=by
    intro j;obtain ⟨r,hl,_⟩:=keep _ (z j);rw [hl];rfl
   exact Run.never (f:=Vi T m n room but) (R:=fun j=>((Vi T m n room but j).leave room ((Vi T m n room but j).enter m but n) m).getD 0) (C:=fun j=>(Vi T m n room but j).enter m but n) (M:=M) (b:=b) (g:=g) (m:=m) (n:=n) (room:=room) (but:=but)
    ⟨fun j=>(D j fun i _=>z i).1,fun j=>(D j fun i _=>z i).2.1,fun j=>rfl,fun j=>(z j).1,L,fun j=>rfl,fun j e=>by
     have u:=D j fun i _=>z i
     have B:=hroom _ _ _ u.1 u.2.2 (z j).1 rfl (L j) e;have y:=(z (j+1)).1;unfold Vi zk.nxt at y
     omega⟩
end
theorem Yc {n:Nat} {f g:Nat->Rat}:(zJ n fun k=>f k+g k)=zJ n f+zJ n g:=by
 have:=ZE (n:=n) (f:=f) (g:=g) 1 1
 rw [show zJ n f+zJ n g=1*zJ n f+1*zJ n g by grind, <- this]
 exact zw fun k hk=>by grind
theorem vf {n:Nat} {f:Nat->Rat} (s:Rat):(zJ n fun k=>s*f k)=s*zJ n f:=by
 have:=ZE (n:=n) (f:=f) (g:=fun _=>0) s 0
 rw [show s*zJ n f=s*zJ n f+0*zJ n (fun _=>0) by grind, <- this]
 exact zw fun k hk=>by grind
theorem Xi {m n:Nat} {f:Nat->Nat->Rat}:(zJ m fun i=>zJ n fun k=>f i k)=zJ n fun k=>zJ m fun i=>f i k:=by
 induction m with
 | zero=>exact (yC fun k _=>rfl).symm
 | succ m ih=>show (zJ m fun i=>zJ n fun k=>f i k)+zJ n (fun k=>f m k)=_
              rw [ih, <- Yc];rfl
theorem zct {n:Nat} {f:Nat->Rat} (h:∀ k,k<n->0<=f k):0<=zJ n f:=by
 induction n with
 | zero=>exact Rat.le_refl
 | succ n ih=>unfold zJ;have:=ih fun k hk=>h k (by omega);have:=h n (by omega);grind
theorem zoe {a b:Nat} {f:Nat->Rat}:zJ (a+b) f=zJ a f+zJ b fun k=>f (a+k):=by
 induction b with
 | zero=>show zJ a f=zJ a f+0;grind
 | succ b ih=>show zJ (a+b) f+f (a+b)=zJ a f+(zJ b (fun k=>f (a+k))+f (a+b));rw [ih];grind
theorem zes {n:Nat} {f:Nat->Rat}:zJ (2*n) f=zJ n fun k=>f (2*k)+f (2*k+1):=by
 induction n with
 | zero=>rfl
 | succ n ih=>
   show zJ (2*n+2) f=zJ n (fun k=>f (2*k)+f (2*k+1))+(f (2*n)+f (2*n+1))
   rw [<- ih]
   show zJ (2*n) f+f (2*n)+f (2*n+1)=_
   grind
def zk.at_ (T:zk) (n i u:Nat):Rat:=zJ n fun k=>if T.other k=u then (T.cell i (k+1):Rat) else 0
section
variable {m n:Nat} {T:zk}
theorem zk.tell_all (h:T.Perm m n) (x:Nat->Rat) (i:Nat):T.tell n x i=(T.cell i 0:Rat)+zJ (m+n) fun u=>T.at_ n i u*x u:=by
 unfold zk.tell
 congr 1
 have e:(zJ (m+n) fun u=>T.at_ n i u*x u)=zJ (m+n) fun u=>zJ n fun k=>if T.other k=u then (T.cell i (k+1):Rat)*x u else 0:=by
  apply zw
  intro u hu
  unfold zk.at_
  rw [Rat.mul_comm, <- vf]
  apply zw
  intro k b
  by_cases e:T.other k=u
  . rw [if_pos e,if_pos e];grind
  rw [if_neg e,if_neg e];grind
 rw [e,Xi]
 apply zw
 intro k b
 rw [vu (h.ol k b)]
 . rw [if_pos rfl]
 intro u hu j;rw [if_neg (fun e=>j e.symm)]
theorem zk.Perm.all (h:T.Perm m n) (f:Nat->Rat):zJ (m+n) f=(zJ m fun i=>f (T.basic i))+zJ n fun k=>f (T.other k):=by
 have z:∀ u,u<m+n->f u=(zJ m fun i=>if T.basic i=u then f u else 0)+zJ n fun k=>if T.other k=u then f u else 0:=by
  intro u hu
  rcases h.cov u hu with ⟨i,hi,e⟩ | ⟨k,b,e⟩
  . rw [vu hi,if_pos e,yC]
    . grind
    . intro k b;rw [if_neg (fun e2=>h.bo i k hi b (by rw [e,e2]))]
    . intro j y r;rw [if_neg (fun e2=>r (h.bb j i y hi (by rw [e,e2])))]
  . rw [yC,vu b,if_pos e]
    . grind
    . intro l hl r;rw [if_neg (fun e2=>r (h.oo l k hl b (by rw [e,e2])))]
    . intro j y;rw [if_neg (fun e2=>h.bo j k y b (by rw [e,e2]))]
 rw [zw z,Yc]
 congr 1
 . rw [Xi]
   apply zw
   intro i hi;rw [vu (h.bl i hi),if_pos rfl];intro u hu r;rw [if_neg (fun e=>r e.symm)]
 rw [Xi]
 apply zw
 intro k b;rw [vu (h.ol k b),if_pos rfl];intro u hu r;rw [if_neg (fun e=>r e.symm)]
theorem zna {n:Nat} {f:Nat->Int}:((xk n f:Int):Rat)=zJ n fun k=>(f k:Rat):=by
 induction n with
 | zero=>rfl
 | succ n ih=>unfold xk zJ;push_cast;rw [ih]
theorem zk.Aim.tell {g:Nat->Int} (ha:T.Aim g m (n+1)) (h:T.Perm m n) {x:Nat->Rat} (hx:T.Sol m n x):T.tell n x m=(T.den:Rat)*zJ (m+n) fun u=>(g u:Rat)*x u:=by
 have e:∀ k,k<n+1->(T.cell m k:Rat)=(T.den:Rat)*(if k=0 then 0 else (g (T.other (k - 1)):Rat))+zJ m fun j=>(T.cell j k:Rat)*(g (T.basic j):Rat):=by
  intro k b
  rw [ha k b]
  push_cast
  rw [zna]
  congr 1
  . congr 1
    split<;>rfl
  apply zw
  intro j B
  push_cast
  rfl
 have z:(T.den:Rat)*(zJ m fun i=>(g (T.basic i):Rat)*x (T.basic i))=zJ m fun i=>(g (T.basic i):Rat)*T.tell n x i:=by
  rw [<- vf]
  apply zw
  intro i hi
  rw [<- hx i hi];grind
 rw [h.all,Rat.mul_add,z]
 unfold zk.tell
 rw [e 0 (by omega),if_pos rfl]
 have r:(zJ n fun k=>(T.cell m (k+1):Rat)*x (T.other k))=(T.den:Rat)*(zJ n fun k=>(g (T.other k):Rat)*x (T.other k))+zJ m fun i=>(g (T.basic i):Rat)*zJ n fun k=>(T.cell i (k+1):Rat)*x (T.other k):=by
  have y:(zJ m fun i=>(g (T.basic i):Rat)*zJ n fun k=>(T.cell i (k+1):Rat)*x (T.other k))=zJ n fun k=>(zJ m fun i=>(T.cell i (k+1):Rat)*(g (T.basic i):Rat))*x (T.other k):=by
   have:(zJ m fun i=>(g (T.basic i):Rat)*zJ n fun k=>(T.cell i (k+1):Rat)*x (T.other k))=zJ m fun i=>zJ n fun k=>(g (T.basic i):Rat)*((T.cell i (k+1):Rat)*x (T.other k)):=
    zw fun i hi=>(vf _).symm
   rw [this,Xi]
   apply zw
   intro k b;rw [Rat.mul_comm _ (x (T.other k)), <- vf]
   apply zw
   intro i hi
   grind
  rw [y, <- vf, <- Yc]
  apply zw
  intro k b
  rw [e (k+1) (by omega),if_neg (by omega),Nat.add_sub_cancel]
  grind
 have l:(zJ m fun i=>(g (T.basic i):Rat)*((T.cell i 0:Rat)+zJ n fun k=>(T.cell i (k+1):Rat)*x (T.other k)))=(zJ m fun i=>(T.cell i 0:Rat)*(g (T.basic i):Rat))+zJ m fun i=>(g (T.basic i):Rat)*zJ n fun k=>(T.cell i (k+1):Rat)*x (T.other k):=by
  rw [<- Yc]
  apply zw
  intro i hi
  grind
 rw [r,l]
 grind
end
structure zk.Start (T:zk) (m nn:Nat):Prop where
 den:T.den=1
 bas:∀ i,i<m->T.basic i=2*nn+i
 oth:∀ k,k<2*nn->T.other k=k
 room:T.other (2*nn)=2*nn+m
 twin:∀ i j,i<m->j<nn->T.cell i (2*j+1)= -(T.cell i (2*j+2))
 one:∀ i,i<m->T.cell i (2*nn+1)=1
section
variable {m nn:Nat} {T0:zk}
def zk.vecs (T0:zk) (m nn:Nat) (u i:Nat):Int:=if u<2*nn then -(T0.cell i (u+1)) else if u=2*nn+m then -1 else if u=2*nn+i then 1 else 0
theorem zk.Start.perm (h:T0.Start m nn):T0.Perm m (2*nn+1):=by
 have ho:∀ k,k<2*nn+1->T0.other k=if k<2*nn then k else 2*nn+m:=by
  intro k b
  split
  . exact h.oth k (by omega)
  obtain rfl:k=2*nn:=by omega
  exact h.room
 refine ⟨fun i j hi hj e=>?_,fun k l b hl e=>?_,fun i k hi b e=>?_,fun i hi=>?_,fun k b=>?_,fun u hu=>?_⟩
 . rw [h.bas i hi,h.bas j hj] at e;omega
 . rw [ho k b,ho l hl] at e;split at e<;>split at e<;>omega
 . rw [h.bas i hi,ho k b] at e;split at e<;>omega
 . rw [h.bas i hi];omega
 . rw [ho k b];split<;>omega
 . by_cases e:u<2*nn
   . exact .inr ⟨u,by omega,h.oth u e⟩
   by_cases r:u=2*nn+m
   . exact .inr ⟨2*nn,by omega,by rw [h.room,r]⟩
   exact .inl ⟨u - 2*nn,by omega,by rw [h.bas _ (by omega)];omega⟩
theorem zk.Start.inv (h:T0.Start m nn):T0.Inv (T0.vecs m nn) (fun i=>T0.cell i 0) m (2*nn+2):=by
 have hb:∀ j i,j<m->i<m->T0.vecs m nn (T0.basic j) i=if j=i then 1 else 0:=by
  intro j i b hi
  unfold zk.vecs
  rw [h.bas j b,if_neg (by omega),if_neg (by omega)]
  by_cases e:j=i
  . rw [if_pos e,if_pos (by omega)]
  rw [if_neg e,if_neg (by omega)]
 refine ⟨by rw [h.den];decide,fun k i hk hi=>?_,.inl ?_⟩
 rotate_left
 . rw [h.den, <- zsi m]
   apply Vw
   intro j i b hi;exact hb j i b hi
 rw [YN hi]
 rotate_left
 . intro j b u
   rw [hb j i b hi,if_neg u,Int.mul_zero]
 rw [hb i i hi hi,if_pos rfl,h.den,Int.one_mul,Int.mul_one]
 unfold zk.colv
 by_cases e:k=0
 . subst e;rw [if_pos rfl]
 rw [if_neg e]
 unfold zk.vecs
 by_cases l:k - 1<2*nn
 . rw [h.oth _ l,if_pos l,show k - 1+1=k by omega]
 have r:k=2*nn+1:=by omega
 subst r;rw [Nat.add_sub_cancel,h.room,if_neg (by omega),if_pos rfl,h.one i hi]
theorem zk.Start.sol (h:T0.Start m nn) {x:Nat->Rat}:T0.Sol m (2*nn+1) x↔∀ i,i<m->x (2*nn+i)=(T0.cell i 0:Rat) - (zJ nn fun j=>(T0.cell i (2*j+2):Rat)*(x (2*j) - x (2*j+1)))+x (2*nn+m):=by
 have key:∀ i,i<m->T0.tell (2*nn+1) x i=(T0.cell i 0:Rat) - (zJ nn fun j=>(T0.cell i (2*j+2):Rat)*(x (2*j) - x (2*j+1)))+x (2*nn+m):=by
  intro i hi
  unfold zk.tell
  show (T0.cell i 0:Rat)+((zJ (2*nn) fun k=>(T0.cell i (k+1):Rat)*x (T0.other k))+(T0.cell i (2*nn+1):Rat)*x (T0.other (2*nn)))=_
  rw [h.room,h.one i hi,zes]
  have:(zJ nn fun k=>(T0.cell i (2*k+1):Rat)*x (T0.other (2*k))+(T0.cell i (2*k+1+1):Rat)*x (T0.other (2*k+1)))= -1*zJ nn fun j=>(T0.cell i (2*j+2):Rat)*(x (2*j) - x (2*j+1)):=by
   rw [<- vf]
   apply zw
   intro j l;rw [h.oth _ (by omega),h.oth _ (by omega),h.twin i j hi l]
   push_cast
   grind
  rw [this]
  have b:((1:Int):Rat)=1:=rfl
  rw [b]
  grind
 unfold zk.Sol
 constructor
 . intro e i hi
   have:=e i hi;rw [key i hi,h.den,h.bas i hi] at this;rw [<- this];have b:((1:Int):Rat)=1:=rfl;rw [b];grind
 intro e i hi
 rw [key i hi,h.den,h.bas i hi, <- e i hi];have b:((1:Int):Rat)=1:=rfl;rw [b];grind
theorem zk.Start.pt (h:T0.Start m nn) (y:Nat->Rat) (z:Rat):∃ x:Nat->Rat,T0.Sol m (2*nn+1) x/\(∀ u,u<2*nn->x u=y u)/\x (2*nn+m)=z:=by
 obtain ⟨x,e,b⟩:=h.perm.point (by rw [h.den];decide) (fun k=>if k<2*nn then y k else z)
 refine ⟨x,e,fun u hu=>?_,?_⟩
 . have:=b u (by omega)
   rw [h.oth u hu,if_pos hu] at this;exact this
 have:=b (2*nn) (by omega)
 rw [h.room,if_neg (by omega)] at this;exact this
end
def zk.pv (T:zk) (m c u:Nat):Rat:=(zJ m fun i=>if T.basic i=u then (T.cell i c:Rat) / (T.den:Rat) else 0)+if 0<c/\u=T.other (c - 1) then 1 else 0
section
variable {m n:Nat} {T:zk}
theorem zk.pv_row (h:T.Perm m n) {c i:Nat} (hc:c<=n) (hi:i<m):T.pv m c (T.basic i)=(T.cell i c:Rat) / (T.den:Rat):=by
 unfold zk.pv
 rw [vu hi,if_pos rfl]
 rotate_left
 . intro j b l;rw [if_neg (fun e=>l (h.bb j i b hi e))]
 have:¬ (0<c/\T.basic i=T.other (c - 1)):=fun h2=>h.bo i (c - 1) hi (by omega) h2.2
 rw [if_neg this];grind
theorem zk.pv_col (h:T.Perm m n) {c k:Nat} (hc:c<=n) (hk:k<n):T.pv m c (T.other k)=if k+1=c then 1 else 0:=by
 unfold zk.pv
 rw [yC]
 rotate_left
 . intro i hi;rw [if_neg (fun e=>h.bo i k hi hk e)]
 by_cases e:k+1=c
 . subst e;rw [if_pos rfl,if_pos ⟨by omega,by rw [Nat.add_sub_cancel]⟩];grind
 rw [if_neg e,if_neg]
 . grind
 rintro ⟨j,b⟩
 have:=h.oo k (c - 1) hk (by omega) b
 omega
theorem zk.pv_sol (h:T.Perm m n) (hd:T.den≠0):T.Sol m n (T.pv m 0):=by
 intro i hi
 have b :(T.den:Rat)≠0:=by exact_mod_cast hd
 rw [zk.pv_row h (by omega) hi,vZ (fun k hk=>by rw [zk.pv_col h (by omega) hk,if_neg (by omega)])]
 grind
theorem zk.pv_tell (h:T.Perm m n) {c:Nat} (h0:0<c) (hc:c<=n) (i:Nat):T.tell n (fun u=>T.pv m 0 u+T.pv m c u) i=(T.cell i 0:Rat)+(T.cell i c:Rat):=by
 unfold zk.tell
 rw [vu (a:=c - 1) (by omega)]
 . simp only []
   rw [zk.pv_col h (k:=c - 1) (by omega) (by omega),zk.pv_col h (k:=c - 1) hc (by omega),if_neg (by omega),if_pos (by omega),show c - 1+1=c by omega];grind
 intro k b e
 simp only [];rw [zk.pv_col h (by omega) b,zk.pv_col h hc b,if_neg (by omega),if_neg (by omega)];grind
theorem zk.pv_sol2 (h:T.Perm m n) (hd:T.den≠0) {c:Nat} (h0:0<c) (hc:c<=n):T.Sol m n (fun u=>T.pv m 0 u+T.pv m c u):=by
 intro i hi
 have b :(T.den:Rat)≠0:=by exact_mod_cast hd
 rw [zk.pv_tell h h0 hc]
 simp only []
 rw [zk.pv_row h (by omega) hi,zk.pv_row h hc hi]
 grind
end
section
variable {m nn:Nat} {T0 U:zk} {g:Nat->Int}
theorem XF {f:Nat->Rat}:zJ (m+(2*nn+1)) f=zJ (2*nn) f+(zJ m fun i=>f (2*nn+i))+f (2*nn+m):=by
 rw [show m+(2*nn+1)=2*nn+m+1 by omega]
 show zJ (2*nn+m) f+f (2*nn+m)=_
 rw [zoe]
theorem zk.told (h0:T0.Start m nn) (hp:U.Perm m (2*nn+1)) (ha:U.Aim g m (2*nn+2)) (hs:∀ x,U.Sol m (2*nn+1) x↔T0.Sol m (2*nn+1) x) (hg:∀ i,i<m->g (2*nn+i)=0) (y:Nat->Rat):
 (U.den:Rat)*(zJ (2*nn) fun u=>(g u:Rat)*y u)=(U.cell m 0:Rat)+(zJ (2*nn) fun u=>U.at_ (2*nn+1) m u*y u)+zJ m fun i=>U.at_ (2*nn+1) m (2*nn+i)*((T0.cell i 0:Rat) - zJ nn fun j=>(T0.cell i (2*j+2):Rat)*(y (2*j) - y (2*j+1))):=by
 obtain ⟨x,l,b,r⟩:=h0.pt y 0
 have e:=ha.tell hp ((hs x).2 l)
 rw [zk.tell_all hp,XF,XF] at e
 have z:(zJ (2*nn) fun u=>(g u:Rat)*x u)=zJ (2*nn) fun u=>(g u:Rat)*y u:=zw fun u hu=>by rw [b u hu]
 have D:(zJ (2*nn) fun u=>U.at_ (2*nn+1) m u*x u)=zJ (2*nn) fun u=>U.at_ (2*nn+1) m u*y u:=zw fun u hu=>by rw [b u hu]
 have B:(zJ m fun i=>(g (2*nn+i):Rat)*x (2*nn+i))=0:=yC fun i hi=>by rw [hg i hi];exact Rat.zero_mul _
 have C:(zJ m fun i=>U.at_ (2*nn+1) m (2*nn+i)*x (2*nn+i))=zJ m fun i=>U.at_ (2*nn+1) m (2*nn+i)*((T0.cell i 0:Rat) - zJ nn fun j=>(T0.cell i (2*j+2):Rat)*(y (2*j) - y (2*j+1))):=by
  apply zw
  intro i hi
  rw [(h0.sol).1 l i hi,r]
  have:(zJ nn fun j=>(T0.cell i (2*j+2):Rat)*(x (2*j) - x (2*j+1)))=zJ nn fun j=>(T0.cell i (2*j+2):Rat)*(y (2*j) - y (2*j+1)):=zw fun j hj=>by rw [b _ (by omega),b _ (by omega)]
  rw [this];grind
 rw [z,D,B,C,r] at e
 grind
theorem zk.dual (h0:T0.Start m nn) (hp:U.Perm m (2*nn+1)) (ha:U.Aim g m (2*nn+2)) (hs:∀ x,U.Sol m (2*nn+1) x↔T0.Sol m (2*nn+1) x) (hg:∀ i,i<m->g (2*nn+i)=0)
 (htw:∀ j,j<nn->g (2*j+1)= -(g (2*j))) (hle:∀ u,u<2*nn+m->U.at_ (2*nn+1) m u<=0):
 (∀ j,j<nn->(zJ m fun i=> -(U.at_ (2*nn+1) m (2*nn+i))*(T0.cell i (2*j+2):Rat))=(U.den:Rat)*(g (2*j):Rat))/\(zJ m fun i=> -(U.at_ (2*nn+1) m (2*nn+i))*(T0.cell i 0:Rat))=(U.cell m 0:Rat):=by
 have G:=zk.told h0 hp ha hs hg (fun _=>0)
 have D:(zJ (2*nn) fun u=>(g u:Rat)*0)=0:=yC fun u hu=>Rat.mul_zero _
 have z:(zJ (2*nn) fun u=>U.at_ (2*nn+1) m u*0)=0:=yC fun u hu=>Rat.mul_zero _
 have z3:(zJ m fun i=>U.at_ (2*nn+1) m (2*nn+i)*((T0.cell i 0:Rat) - zJ nn fun j=>(T0.cell i (2*j+2):Rat)*(0 - 0)))= -1*zJ m fun i=> -(U.at_ (2*nn+1) m (2*nn+i))*(T0.cell i 0:Rat):=by
  rw [<- vf]
  apply zw
  intro i hi
  rw [yC fun j hj=>by grind]
  grind
 rw [D,z,z3] at G
 refine ⟨fun j hj=>?_,by grind⟩
 have one:∀ u,u<2*nn->(U.den:Rat)*(g u:Rat)=(U.cell m 0:Rat)+U.at_ (2*nn+1) m u+zJ m fun i=>U.at_ (2*nn+1) m (2*nn+i)*((T0.cell i 0:Rat) - if u % 2=0 then (T0.cell i (2*(u / 2)+2):Rat) else -(T0.cell i (2*(u / 2)+2):Rat)):=by
  intro u hu
  have b:=zk.told h0 hp ha hs hg (fun v=>if v=u then 1 else 0)
  rw [vu hu (fun k y l=>by rw [if_neg l];exact Rat.mul_zero _),vu hu (fun k y l=>by rw [if_neg l];exact Rat.mul_zero _),if_pos rfl,Rat.mul_one,Rat.mul_one] at b
  rw [b]
  congr 1
  apply zw
  intro i hi
  congr 2
  rw [vu (a:=u / 2) (by omega)]
  rotate_left
  . intro k y l
    rw [if_neg (by omega),if_neg (by omega)];grind
  by_cases e:u % 2=0
  . rw [if_pos e,if_pos (by omega),if_neg (by omega)];grind
  rw [if_neg e,if_neg (by omega),if_pos (by omega)];grind
 have b:=one (2*j) (by omega)
 have r:=one (2*j+1) (by omega)
 have I:=hle (2*j) (by omega)
 have J:=hle (2*j+1) (by omega)
 have B:(zJ m fun i=>U.at_ (2*nn+1) m (2*nn+i)*((T0.cell i 0:Rat) - if (2*j) % 2=0 then (T0.cell i (2*((2*j) / 2)+2):Rat) else -(T0.cell i (2*((2*j) / 2)+2):Rat)))=zJ m fun i=>U.at_ (2*nn+1) m (2*nn+i)*((T0.cell i 0:Rat) - (T0.cell i (2*j+2):Rat)):=by
  apply zw
  intro i hi
  rw [if_pos (by omega),show (2*j) / 2=j by omega]
 rw [B] at b
 have F:(zJ m fun i=>U.at_ (2*nn+1) m (2*nn+i)*((T0.cell i 0:Rat) - if (2*j+1) % 2=0 then (T0.cell i (2*((2*j+1) / 2)+2):Rat) else -(T0.cell i (2*((2*j+1) / 2)+2):Rat)))=zJ m fun i=>U.at_ (2*nn+1) m (2*nn+i)*((T0.cell i 0:Rat) - -(T0.cell i (2*j+2):Rat)):=by
  apply zw
  intro i hi
  rw [if_neg (by omega),show (2*j+1) / 2=j by omega]
 rw [F,htw j hj] at r
 have E:(zJ m fun i=>U.at_ (2*nn+1) m (2*nn+i)*((T0.cell i 0:Rat) - (T0.cell i (2*j+2):Rat)))= -1*(zJ m fun i=> -(U.at_ (2*nn+1) m (2*nn+i))*(T0.cell i 0:Rat))+1*zJ m fun i=> -(U.at_ (2*nn+1) m (2*nn+i))*(T0.cell i (2*j+2):Rat):=by
  rw [<- ZE]
  exact zw fun i hi=>by grind
 have C:(zJ m fun i=>U.at_ (2*nn+1) m (2*nn+i)*((T0.cell i 0:Rat) - -(T0.cell i (2*j+2):Rat)))= -1*(zJ m fun i=> -(U.at_ (2*nn+1) m (2*nn+i))*(T0.cell i 0:Rat))+ -1*zJ m fun i=> -(U.at_ (2*nn+1) m (2*nn+i))*(T0.cell i (2*j+2):Rat):=by
  rw [<- ZE]
  exact zw fun i hi=>by grind
 rw [E] at b
 rw [C] at r
 push_cast at r
 grind
theorem zk.primal (h0:T0.Start m nn) (hp:U.Perm m (2*nn+1)) (hd:0<U.den) (ha:U.Aim g m (2*nn+2)) (hs:∀ x,U.Sol m (2*nn+1) x↔T0.Sol m (2*nn+1) x) (hf:U.Feas m) (hr:∃ k,k<2*nn+1/\U.other k=2*nn+m) (hg:∀ u,2*nn<=u->g u=0):
 (∀ i,i<m->(zJ nn fun j=>(T0.cell i (2*j+2):Rat)*(U.pv m 0 (2*j) - U.pv m 0 (2*j+1)))<=(T0.cell i 0:Rat))/\(U.den:Rat)*(zJ (2*nn) fun u=>(g u:Rat)*U.pv m 0 u)=(U.cell m 0:Rat):=by
 have r:=zk.pv_sol hp (by omega:U.den≠0)
 have B:=(hs _).1 r
 have y:(0:Rat)<(U.den:Rat):=by exact_mod_cast hd
 have C:∀ u,u<m+(2*nn+1)->0<=U.pv m 0 u:=by
  intro u hu
  rcases hp.cov u hu with ⟨i,hi,e⟩ | ⟨k,b,e⟩
  . rw [<- e,zk.pv_row hp (by omega) hi,Rat.div_def]
    have:(0:Rat)<=(U.cell i 0:Rat):=by exact_mod_cast hf i hi
    exact Rat.mul_nonneg this (Rat.le_of_lt (Rat.inv_pos.2 y))
  . rw [<- e,zk.pv_col hp (by omega) b,if_neg (by omega)];exact Rat.le_refl
 obtain ⟨k,b,e⟩:=hr
 have D:U.pv m 0 (2*nn+m)=0:=by rw [<- e,zk.pv_col hp (by omega) b,if_neg (by omega)]
 refine ⟨fun i hi=>?_,?_⟩
 . have l:=h0.sol.1 B i hi
   have E:=C (2*nn+i) (by omega);rw [D] at l
   grind
 have l:=ha.tell hp r
 rw [vZ (fun k b=>by rw [zk.pv_col hp (by omega) b,if_neg (by omega)]),XF] at l;have z:(zJ m fun i=>(g (2*nn+i):Rat)*U.pv m 0 (2*nn+i))=0:=yC fun i hi=>by rw [hg _ (by omega)];exact Rat.zero_mul _
 rw [z,hg (2*nn+m) (by omega)] at l;rw [l];have:((0:Int):Rat)=0:=rfl;rw [this];grind
theorem zk.ray (h0:T0.Start m nn) (hp:U.Perm m (2*nn+1)) (hd:0<U.den) (ha:U.Aim g m (2*nn+2)) (hs:∀ x,U.Sol m (2*nn+1) x↔T0.Sol m (2*nn+1) x) (hr:∃ k,k<2*nn+1/\U.other k=2*nn+m) (hg:∀ u,2*nn<=u->g u=0)
 {c:Nat} (hc0:0<c) (hc:c<=2*nn+1) (hne:U.other (c - 1)≠2*nn+m) (hcol:∀ i,i<m->0<=U.cell i c):
 (∀ i,i<m->(zJ nn fun j=>(T0.cell i (2*j+2):Rat)*(U.pv m c (2*j) - U.pv m c (2*j+1)))<=0)/\(U.den:Rat)*(zJ (2*nn) fun u=>(g u:Rat)*U.pv m c u)=(U.cell m c:Rat):=by
 have B:=zk.pv_sol hp (by omega:U.den≠0)
 have z:=zk.pv_sol2 hp (by omega:U.den≠0) hc0 hc
 have F:=(hs _).1 B
 have C:=(hs _).1 z
 have D:(0:Rat)<(U.den:Rat):=by exact_mod_cast hd
 have G:∀ u,u<m+(2*nn+1)->0<=U.pv m c u:=by
  intro u hu
  rcases hp.cov u hu with ⟨i,hi,e⟩ | ⟨k,l,e⟩
  . rw [<- e,zk.pv_row hp hc hi,Rat.div_def]
    have:(0:Rat)<=(U.cell i c:Rat):=by exact_mod_cast hcol i hi
    exact Rat.mul_nonneg this (Rat.le_of_lt (Rat.inv_pos.2 D))
  . rw [<- e,zk.pv_col hp hc l];split<;>decide
 obtain ⟨k,l,e⟩:=hr
 have J:U.pv m c (2*nn+m)=0:=by
  rw [<- e,zk.pv_col hp hc l,if_neg]
  intro I
  apply hne
  rw [<- I,Nat.add_sub_cancel,e]
 refine ⟨fun i hi=>?_,?_⟩
 . have y:=h0.sol.1 F i hi
   have b:=h0.sol.1 C i hi;have K:=G (2*nn+i) (by omega)
   have r:(zJ nn fun j=>(T0.cell i (2*j+2):Rat)*(U.pv m 0 (2*j)+U.pv m c (2*j) - (U.pv m 0 (2*j+1)+U.pv m c (2*j+1))))=(zJ nn fun j=>(T0.cell i (2*j+2):Rat)*(U.pv m 0 (2*j) - U.pv m 0 (2*j+1)))+zJ nn fun j=>(T0.cell i (2*j+2):Rat)*(U.pv m c (2*j) - U.pv m c (2*j+1)):=by
    rw [<- Yc];exact zw fun j hj=>by grind
   rw [r,J] at b
   grind
 have y:=ha.tell hp B
 have b:=ha.tell hp z;rw [vZ (fun k l=>by rw [zk.pv_col hp (by omega) l,if_neg (by omega)])] at y;rw [zk.pv_tell hp hc0 hc] at b
 have r:(zJ (m+(2*nn+1)) fun u=>(g u:Rat)*(U.pv m 0 u+U.pv m c u))=(zJ (m+(2*nn+1)) fun u=>(g u:Rat)*U.pv m 0 u)+zJ (m+(2*nn+1)) fun u=>(g u:Rat)*U.pv m c u:=by
  rw [<- Yc];exact zw fun j hj=>by grind
 rw [r,Rat.mul_add, <- y,XF] at b;have E:(zJ m fun i=>(g (2*nn+i):Rat)*U.pv m c (2*nn+i))=0:=yC fun i hi=>by rw [hg _ (by omega)];exact Rat.zero_mul _
 rw [E,hg (2*nn+m) (by omega)] at b;have:((0:Int):Rat)=0:=rfl;rw [this] at b
 grind
end
def zk.stA (T:zk) (r c i k:Nat):Nat->Nat->Int:=fun i' k' =>if i' ≠r/\(i' <i\/(i' =i/\k' <k)) then T.bare r c i' k' else T.cell i' k'
def zk.stB (T:zk) (r c k:Nat):Nat->Nat->Int:=fun i' k' =>if i' =r then (if k' <k/\k' ≠c then -(T.cell r k') else T.cell r k') else T.bare r c i' k'
def stD (A:Nat->Nat->Int) (i k:Nat):Nat->Nat->Int:=fun i' k' =>if i' <i\/(i' =i/\k' <k) then -(A i' k') else A i' k'
section
variable (T:zk) (r c i k m L:Nat)
theorem zk.bare_col (h:i≠r):T.bare r c i c=T.cell i c:=by unfold zk.bare;rw [if_neg h,if_pos rfl]
theorem zk.stA_start (i' k' :Nat):T.stA r c 0 0 i' k' =T.cell i' k' :=by unfold zk.stA;rw [if_neg (by omega)]
theorem zk.stA_skip (i' k' :Nat):T.stA r c (r+1) 0 i' k' =T.stA r c r 0 i' k' :=by
 unfold zk.stA
 by_cases h:i' ≠r/\(i' <r\/(i' =r/\k' <0))
 . rw [if_pos h,if_pos (by omega)]
 rw [if_neg h,if_neg (by omega)]
theorem zk.stA_here:T.stA r c i k i k=T.cell i k:=by unfold zk.stA;rw [if_neg (by omega)]
theorem zk.stA_row (k' :Nat):T.stA r c i k r k' =T.cell r k' :=by unfold zk.stA;rw [if_neg (by omega)]
theorem zk.stA_col0:T.stA r c i 0 i c=T.cell i c:=by unfold zk.stA;rw [if_neg (by omega)]
theorem zk.stA_next (hi:i≠r) (hk:k≠c) (i' k' :Nat):T.stA r c i (k+1) i' k' =if i' =i/\k' =k then (T.cell i k*T.cell r c - T.cell i c*T.cell r k).tdiv T.den else T.stA r c i k i' k' :=by
 unfold zk.stA
 by_cases h:i' =i/\k' =k
 . obtain ⟨rfl,rfl⟩:=h
   rw [if_pos (by omega),if_pos ⟨rfl,rfl⟩];unfold zk.bare;rw [if_neg hi,if_neg hk]
 rw [if_neg h]
 by_cases b:i' ≠r/\(i' <i\/(i' =i/\k' <k))
 . rw [if_pos b,if_pos (by omega)]
 rw [if_neg b,if_neg (by omega)]
theorem zk.stA_col (hi:i≠r) (i' k' :Nat):T.stA r c i (c+1) i' k' =T.stA r c i c i' k' :=by
 unfold zk.stA
 by_cases h:i' =i/\k' =c
 . obtain ⟨rfl,rfl⟩:=h
   rw [if_pos (by omega),if_neg (by omega),zk.bare_col T r k' i' hi]
 by_cases b:i' ≠r/\(i' <i\/(i' =i/\k' <c))
 . rw [if_pos b,if_pos (by omega)]
 rw [if_neg b,if_neg (by omega)]
theorem zk.stA_end (hi:i≠r) (i' k' :Nat) (hk:k' <L):T.stA r c (i+1) 0 i' k' =if i' =i/\k' =c then T.cell i c else T.stA r c i L i' k' :=by
 unfold zk.stA
 by_cases h:i' =i/\k' =c
 . obtain ⟨rfl,rfl⟩:=h
   rw [if_pos (by omega),if_pos ⟨rfl,rfl⟩,zk.bare_col T r k' i' hi]
 rw [if_neg h]
 by_cases b:i' ≠r/\(i' <i\/(i' =i/\k' <L))
 . rw [if_pos b,if_pos (by omega)]
 rw [if_neg b,if_neg (by omega)]
theorem zk.stB_start (i' k' :Nat) (h:i' <=m):T.stB r c 0 i' k' =T.stA r c (m+1) 0 i' k' :=by
 unfold zk.stB zk.stA
 by_cases b:i' =r
 . subst b;rw [if_pos rfl,if_neg (by omega),if_neg (by omega)]
 rw [if_neg b,if_pos (by omega)]
theorem zk.stB_here:T.stB r c k r k=T.cell r k:=by unfold zk.stB;rw [if_pos rfl,if_neg (by omega)]
theorem zk.stB_next (hk:k≠c) (i' k' :Nat):T.stB r c (k+1) i' k' =if i' =r/\k' =k then -(T.cell r k) else T.stB r c k i' k' :=by
 unfold zk.stB
 by_cases b:i' =r
 rotate_left
 . rw [if_neg b,if_neg (show ¬ (i' =r/\k' =k) from fun h=>b h.1),if_neg b]
 subst b
 by_cases e:k' =k
 . subst e;rw [if_pos rfl,if_pos (by omega),if_pos ⟨rfl,rfl⟩]
 rw [if_pos rfl,if_neg (show ¬ (i' =i' /\k' =k) from fun h=>e h.2),if_pos rfl]
 by_cases j:k' <k/\k' ≠c
 . rw [if_pos j,if_pos (by omega)]
 rw [if_neg j,if_neg (by omega)]
theorem zk.stB_col (i' k' :Nat):T.stB r c (c+1) i' k' =T.stB r c c i' k' :=by
 unfold zk.stB
 by_cases b:i' =r
 rotate_left
 . rw [if_neg b,if_neg b]
 rw [if_pos b,if_pos b]
 by_cases e:k' <c/\k' ≠c
 . rw [if_pos e,if_pos (by omega)]
 rw [if_neg e,if_neg (by omega)]
theorem zk.stB_end (i' k' :Nat) (hk:k' <L):T.bare r c i' k' =if i' =r/\k' =c then T.den else T.stB r c L i' k' :=by
 unfold zk.stB zk.bare
 by_cases b:i' =r
 rotate_left
 . rw [if_neg b,if_neg (show ¬ (i' =r/\k' =c) from fun h=>b h.1),if_neg b]
 subst b
 by_cases e:k' =c
 . subst e;rw [if_pos rfl,if_pos rfl,if_pos ⟨rfl,rfl⟩]
 rw [if_pos rfl,if_neg e,if_neg (show ¬ (i' =i' /\k' =c) from fun h=>e h.2),if_pos rfl,if_pos ⟨hk,e⟩]
end
section
variable (A:Nat->Nat->Int) (i k m L:Nat)
theorem zog (i' k' :Nat):stD A 0 0 i' k' =A i' k' :=by unfold stD;rw [if_neg (by omega)]
theorem zq9:stD A i k i k=A i k:=by unfold stD;rw [if_neg (by omega)]
theorem zrk (i' k' :Nat):stD A i (k+1) i' k' =if i' =i/\k' =k then -(A i k) else stD A i k i' k' :=by
 unfold stD
 by_cases h:i' =i/\k' =k
 . obtain ⟨rfl,rfl⟩:=h
   rw [if_pos (by omega),if_pos ⟨rfl,rfl⟩]
 rw [if_neg h]
 by_cases b:i' <i\/(i' =i/\k' <k)
 . rw [if_pos b,if_pos (by omega)]
 rw [if_neg b,if_neg (by omega)]
theorem zuw (i' k' :Nat) (hk:k' <L):stD A (i+1) 0 i' k' =stD A i L i' k' :=by
 unfold stD
 by_cases b:i' <i\/(i' =i/\k' <L)
 . rw [if_pos b,if_pos (by omega)]
 rw [if_neg b,if_neg (by omega)]
theorem zuf (i' k' :Nat) (hi:i' <=m):stD A (m+1) 0 i' k' = -(A i' k'):=by unfold stD;rw [if_pos (by omega)]
end
end Go.Proofs.YtobdoblpnanclaaGreatDoor
