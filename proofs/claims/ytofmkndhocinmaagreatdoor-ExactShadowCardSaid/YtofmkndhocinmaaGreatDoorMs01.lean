/- Parts of the proof. -/
import Derived.Test.YtofmkndhocinmaaGreatDoorMs00
import Init.Data.List.Lemmas
set_option linter.all false
namespace Go.Proofs.YtofmkndhocinmaaGreatDoor
open Proofs.Tryz
def val (β:Nat):List Nat->Nat
 | []=>0
 | d :: ds=>d+β*val β ds
def zQ (β:Nat) (ds:List Nat):Prop:=∀ d∈ds,d<β
def xP (β:Nat) (ds:List Nat):Prop:=zQ β ds/\ds.getLast?≠some 0
theorem Yu (β:Nat):val β []=0:=rfl
theorem YG (β d:Nat) (ds:List Nat):val β (d :: ds)=d+β*val β ds:=rfl
theorem zco (β d:Nat):val β [d]=d:=by simp [val]
theorem ZN (β:Nat) (a b:List Nat):val β (a ++ b)=val β a+β ^ a.length*val β b:=by
 induction a with
 | nil=>simp [val]
 | cons d a ih=>simp only [List.cons_append,YG,ih,List.length_cons,Nat.pow_succ,Nat.mul_add,Nat.add_assoc];rw [uH (β ^ a.length) β,Nat.mul_assoc]
theorem YB (β:Nat) (a:List Nat) (d:Nat):val β (a ++ [d])=val β a+β ^ a.length*d:=by rw [ZN,zco]
theorem zd4 (β n:Nat):val β (List.replicate n 0)=0:=by
 induction n with
 | zero=>rfl
 | succ n ih=>rw [List.replicate_succ,YG,ih];simp
theorem zQ.nil (β:Nat):zQ β []:=fun _ h=>by cases h
theorem zQ.append {β:Nat} {a b:List Nat} (ha:zQ β a) (hb:zQ β b):zQ β (a ++ b):=fun d h=>by
 rcases List.mem_append.1 h with h | h
 . exact ha d h
 . exact hb d h
theorem zQ.cons {β d:Nat} {a:List Nat} (hd:d<β) (ha:zQ β a):zQ β (d :: a):=fun x h=>by
 rcases List.mem_cons.1 h with h | h
 . omega
 . exact ha x h
theorem zQ.tail {β d:Nat} {a:List Nat} (h:zQ β (d :: a)):zQ β a:=fun x hx=>h x (List.mem_cons_of_mem _ hx)
theorem zQ.head {β d:Nat} {a:List Nat} (h:zQ β (d :: a)):d<β:=h d uP
theorem zQ.take {β:Nat} {a:List Nat} (h:zQ β a) (k:Nat):zQ β (a.take k):=fun d hd=>h d (List.mem_of_mem_take hd)
theorem zQ.drop {β:Nat} {a:List Nat} (h:zQ β a) (k:Nat):zQ β (a.drop k):=fun d hd=>h d (List.mem_of_mem_drop hd)
theorem zQ.getD {β:Nat} {a:List Nat} (h:zQ β a) (hβ:0<β) (k:Nat):a.getD k 0<β:=by
 rw [List.getD_eq_getElem?_getD]
 by_cases b:k<a.length
 . rw [List.getElem?_eq_getElem b];exact h _ (uO b)
 rw [List.getElem?_eq_none (by omega)];exact hβ
theorem zQ.get {β:Nat} {a:List Nat} (h:zQ β a) (k:Nat) (hk:k<a.length):a[k]<β:=h _ (uO hk)
theorem zQ.replicate {β:Nat} (hβ:0<β) (n:Nat):zQ β (List.replicate n 0):=fun d hd=>by rw [(List.mem_replicate.1 hd).2];exact hβ
theorem zQ.set {β:Nat} {a:List Nat} (h:zQ β a) (k d:Nat) (hd:d<β):zQ β (a.set k d):=fun x b=>by
 rcases List.mem_or_eq_of_mem_set b with b | b
 . exact h x b
 . omega
theorem Yy {β:Nat} {ds:List Nat} (h:zQ β ds):val β ds<β ^ ds.length:=by
 induction ds with
 | nil=>simp [val]
 | cons d ds ih=>
   have b:=ih h.tail;have j:=h.head;rw [YG,List.length_cons,Nat.pow_succ];have e:β*(val β ds+1)<=β*β ^ ds.length:=Nat.mul_le_mul_left _ b;rw [Nat.mul_add,Nat.mul_one] at e;rw [uH (β ^ ds.length) β]
   omega
theorem xE (β:Nat) (ds:List Nat) (k:Nat) (hk:k<=ds.length):val β ds=val β (ds.take k)+β ^ k*val β (ds.drop k):=by
 conv=>lhs;rw [<- List.take_append_drop k ds,ZN,List.length_take,Nat.min_eq_left hk]
theorem zbj {α:Type} (ds:List α) (k:Nat) (hk:k<ds.length):ds.take (k+1)=ds.take k ++ [ds[k]]:=by
 rw [List.take_succ_eq_append_getElem hk]
theorem yY (β:Nat) (ds:List Nat) (k:Nat) (hk:k<ds.length):val β (ds.take (k+1))=val β (ds.take k)+β ^ k*ds[k]:=by
 rw [zbj ds k hk,YB,List.length_take,Nat.min_eq_left (by omega)]
theorem Y8 (β:Nat) (ds:List Nat) (k:Nat) (hk:k<ds.length):val β (ds.drop k)=ds[k]+β*val β (ds.drop (k+1)):=by
 rw [List.drop_eq_getElem_cons hk,YG]
theorem xP.nil (β:Nat):xP β []:=⟨zQ.nil β,by simp⟩
theorem xP.last {β:Nat} {ds:List Nat} (h:xP β ds) (hne:ds≠[]):ds[ds.length - 1]'(by have:=List.length_pos_iff.2 hne;omega)≠0:=by
 intro b
 apply h.2
 rw [List.getLast?_eq_getElem?,List.getElem?_eq_getElem (by have:=List.length_pos_iff.2 hne;omega),b]
theorem xP.mk_ {β:Nat} {ds:List Nat} (h:zQ β ds) (hl:∀ hne:0<ds.length,ds[ds.length - 1]≠0):xP β ds:=by
 refine ⟨h,?_⟩
 intro b
 rw [List.getLast?_eq_getElem?] at b
 obtain ⟨j,e⟩:=List.getElem?_eq_some_iff.1 b
 exact hl (by omega) e
theorem xP.ge {β:Nat} {ds:List Nat} (h:xP β ds) (hne:ds≠[]):β ^ (ds.length - 1)<=val β ds:=by
 have b:=List.length_pos_iff.2 hne
 have j:=h.last hne
 have e:val β ds=val β (ds.take (ds.length - 1))+β ^ (ds.length - 1)*ds[ds.length - 1]:=by
  rw [<- yY β ds (ds.length - 1) (by omega),show ds.length - 1+1=ds.length by omega,List.take_length]
 rw [e]
 have:β ^ (ds.length - 1)*1<=β ^ (ds.length - 1)*ds[ds.length - 1]:=Nat.mul_le_mul_left _ (by omega)
 omega
theorem xP.zero_iff {β:Nat} {ds:List Nat} (hβ:0<β) (h:xP β ds):val β ds=0↔ds=[]:=by
 constructor
 rotate_left
 . rintro rfl;rfl
 intro e
 by_cases b:ds=[]
 . exact b
 have:=h.ge b
 have:=Nat.pow_pos (n:=ds.length - 1) hβ
 omega
theorem xP.lt_of_length {β:Nat} {a b:List Nat} (hβ:0<β) (ha:zQ β a) (hb:xP β b) (h:a.length<b.length):val β a<val β b:=by
 have j:=Yy ha
 have l:=hb.ge (by intro e;subst e;simp at h)
 have m:β ^ a.length<=β ^ (b.length - 1):=Nat.pow_le_pow_right hβ (by omega)
 omega
theorem xP.length_le {β:Nat} {a b:List Nat} (hβ:0<β) (ha:xP β a) (hb:xP β b) (h:val β a<=val β b):a.length<=b.length:=by
 rcases uL b.length a.length with e | e
 . have:=xP.lt_of_length hβ hb.1 ha e;omega
 . exact e
theorem xP.length_lt_pow {β:Nat} {a:List Nat} {k:Nat} (hβ:1<β) (ha:xP β a) (h:val β a<β ^ k):a.length<=k:=by
 rcases uL k a.length with b | b
 . have j:=ha.ge (by intro e;subst e;simp at b)
   have l:β ^ k<=β ^ (a.length - 1):=Nat.pow_le_pow_right (by omega) (by omega)
   omega
 . exact b
theorem zrh {β:Nat} {a b:List Nat} (hl:a.length=b.length) (ha:zQ β a) (hb:zQ β b) (h:val β a=val β b):a=b:=by
 induction a generalizing b with
 | nil=>exact (uI hl.symm).symm
 | cons d a ih=>
   cases b with
   | nil=>simp at hl
   | cons c b=>
     rw [YG,YG] at h;have m:=ha.head;have j:=hb.head
     have e:d=c:=by
      have l:(d+β*val β a) % β=d:=by rw [Nat.add_mul_mod_self_left,Nat.mod_eq_of_lt m]
      have r:(c+β*val β b) % β=c:=by rw [Nat.add_mul_mod_self_left,Nat.mod_eq_of_lt j]
      rw [<- l, <- r,h]
     subst e
     have u:val β a=val β b:=by
      have:β*val β a=β*val β b:=by omega
      exact Nat.eq_of_mul_eq_mul_left (by omega) this
     rw [ih (by simpa using hl) ha.tail hb.tail u]
theorem xP.inj {β:Nat} {a b:List Nat} (hβ:0<β) (ha:xP β a) (hb:xP β b) (h:val β a=val β b):a=b:=
 zrh (Nat.le_antisymm (ha.length_le hβ hb (by omega)) (hb.length_le hβ ha (by omega))) ha.1 hb.1 h
theorem zfl {β:Nat} {a b:List Nat} (hl:a.length=b.length) (ha:zQ β a) (k:Nat) (hk:k<a.length)
 (hsame:∀ j (m:j<a.length) (e:j<b.length),k<j->a[j]=b[j]) (hlt:a[k]<b[k]'(by omega)):val β a<val β b:=by
 have l:=xE β a k (by omega)
 have u:=xE β b k (by omega)
 rw [Y8 β a k hk] at l
 rw [Y8 β b k (by omega)] at u
 have r:a.drop (k+1)=b.drop (k+1):=by
  apply List.ext_getElem (by simp [hl])
  intro i m e
  rw [List.getElem_drop,List.getElem_drop]
  exact hsame _ _ _ (by omega)
 rw [r] at l
 have m:val β (a.take k)<β ^ k:=by
  have:=Yy (ha.take k)
  rwa [List.length_take,Nat.min_eq_left (by omega)] at this
 have e:β ^ k*(a[k]+β*val β (b.drop (k+1))+1)<=β ^ k*(b[k]'(by omega)+β*val β (b.drop (k+1))):=Nat.mul_le_mul_left _ (by omega)
 rw [Nat.mul_add _ _ 1,Nat.mul_one] at e
 omega
def digs (β:Nat) (n:Nat):List Nat:=if _h:β<=1\/n=0 then [] else (n % β) :: digs β (n / β)
termination_by n
decreasing_by exact Nat.div_lt_self (by omega) (by omega)
theorem Yv (β:Nat):digs β 0=[]:=by rw [digs];simp
theorem YJ {β n:Nat} (hβ:1<β) (hn:0<n):digs β n=(n % β) :: digs β (n / β):=by rw [digs];rw [dif_neg (by omega)]
theorem ZR {β:Nat} (hβ:1<β) (n:Nat):xP β (digs β n)/\val β (digs β n)=n:=by
 induction n using Nat.strongRecOn with
 | _ n ih=>
   by_cases j:n=0
   . subst j;rw [Yv];exact ⟨xP.nil β,rfl⟩
   rw [YJ hβ (by omega)]
   obtain ⟨e,b⟩:=ih (n / β) (Nat.div_lt_self (by omega) hβ);refine ⟨⟨zQ.cons (Nat.mod_lt _ (by omega)) e.1,?_⟩,?_⟩
   rotate_left
   . rw [YG,b,Nat.mod_add_div]
   by_cases hd:digs β (n / β)=[]
   rotate_left
   . rw [List.getLast?_cons_of_ne_nil hd]
     exact e.2
   rw [hd] at b |-
   have m:n / β=0:=b.symm
   have l:n<β:=by
    rcases uL n β with h | h
    . exact h
    . have:=Nat.div_pos h (by omega);omega
   rw [Nat.mod_eq_of_lt l]
   simpa using j
theorem xP.digs {β:Nat} {ds:List Nat} (hβ:1<β) (h:xP β ds):digs β (val β ds)=ds:=
 xP.inj (by omega) (ZR hβ _).1 h (ZR hβ _).2
def len (β n:Nat):Nat:=(digs β n).length
theorem xP.length_eq {β:Nat} {ds:List Nat} (hβ:1<β) (h:xP β ds):ds.length=len β (val β ds):=by rw [len,h.digs hβ]
theorem vX {β:Nat} (hβ:1<β) (n:Nat):n<β ^ len β n:=by
 have h:=ZR hβ n
 have:=Yy h.1.1
 rwa [h.2] at this
theorem xC {β n k:Nat} (hβ:1<β) (h:n<β ^ k):len β n<=k:=by
 have b:=ZR hβ n
 exact b.1.length_lt_pow hβ (by rw [b.2];exact h)
theorem Yp {β m n:Nat} (hβ:1<β) (h:m<=n):len β m<=len β n:=xC hβ (Nat.lt_of_le_of_lt h (vX hβ n))
theorem zm8 {β:Nat} (hβ:1<β) (m n:Nat):len β (m*n)<=len β m+len β n:=by
 apply xC hβ
 rw [Nat.pow_add]
 exact Nat.mul_lt_mul'' (vX hβ m) (vX hβ n)
theorem zsb {β:Nat} (hβ:1<β) (m n:Nat):len β (m+n)<=max (len β m) (len β n)+1:=by
 apply xC hβ
 rw [Nat.pow_succ]
 have j:=vX hβ m
 have b:=vX hβ n
 have r:β ^ len β m<=β ^ max (len β m) (len β n):=Nat.pow_le_pow_right (by omega) (by omega)
 have e:β ^ len β n<=β ^ max (len β m) (len β n):=Nat.pow_le_pow_right (by omega) (by omega)
 have l:β ^ max (len β m) (len β n)*2<=β ^ max (len β m) (len β n)*β:=Nat.mul_le_mul_left _ hβ
 omega
theorem zqm (β:Nat):len β 0=0:=by rw [len,Yv];rfl
theorem zsq {β n:Nat} (hβ:1<β) (h:0<n):0<len β n:=by rw [len,YJ hβ h];simp
theorem zjv {β v1 v2 u2 top d r p ul vl u v:Nat} (ht:top=d*v1+r) (hu:u=(top*β+u2)*p+ul) (hv:v=(v1*β+v2)*p+vl) (hul:ul<p) (hlt:u<β*v)
 (h:β<=d\/r*β+u2<d*v2):u / v<d:=by
 have b:0<v:=by
  rcases uN v with e | e
  . rw [e] at hlt;simp at hlt
  . exact e
 rcases h with h | h
 . have:=(Nat.div_lt_iff_lt_mul b).2 hlt
   omega
 . rw [Nat.div_lt_iff_lt_mul b]
   have j:top*β+u2+1<=d*(v1*β+v2):=by
    rw [ht,Nat.add_mul,Nat.mul_add,Nat.mul_assoc];omega
   have l:(top*β+u2+1)*p<=d*(v1*β+v2)*p:=Nat.mul_le_mul_right _ j;rw [Nat.add_mul _ 1 p,Nat.one_mul] at l;have m:d*v=d*(v1*β+v2)*p+d*vl:=by rw [hv,Nat.mul_add,Nat.mul_assoc]
   rw [m,hu]
   omega
theorem zoh {β v1 v2 u2 top d r p ul vl u v:Nat} (ht:top=d*v1+r) (hu:u=(top*β+u2)*p+ul) (hv:v=(v1*β+v2)*p+vl) (hvl:vl<p) (hlt:u<β*v)
 (hv1:1<=v1) (h:d*v2<=r*β+u2):d<=u / v+1:=by
 have b:0<v:=by
  rcases uN v with e | e
  . rw [e] at hlt;simp at hlt
  . exact e
 have z:u / v<β:=(Nat.div_lt_iff_lt_mul b).2 hlt
 rcases uL (u / v+1) d with hd | hd
 . exfalso
   have l:d*(v1*β+v2)<=top*β+u2:=by
    rw [ht,Nat.add_mul,Nat.mul_add,Nat.mul_assoc];omega
   have C:d*(v1*β+v2)*p<=(top*β+u2)*p:=Nat.mul_le_mul_right _ l
   have E:u<(u / v+1)*v:=by
    have:=Nat.div_add_mod u v;have:=Nat.mod_lt u b;rw [Nat.add_mul,Nat.one_mul,uH]
    omega
   have D:(u / v+1)*v<=(u / v+1)*((v1*β+v2+1)*p):=by
    apply Nat.mul_le_mul_left
    rw [hv,Nat.add_mul _ 1 p,Nat.one_mul];omega
   have y:d*(v1*β+v2)*p<(u / v+1)*(v1*β+v2+1)*p:=by
    rw [Nat.mul_assoc (u / v+1)];omega
   have j:d*(v1*β+v2)<(u / v+1)*(v1*β+v2+1):=Nat.lt_of_mul_lt_mul_right y;have m:(u / v+1+1)*(v1*β+v2)<=d*(v1*β+v2):=Nat.mul_le_mul_right _ (by omega);rw [Nat.add_mul (u / v+1) 1,Nat.one_mul] at m;rw [Nat.mul_add (u / v+1) _ 1,Nat.mul_one] at j;have B:1*β<=v1*β:=Nat.mul_le_mul_right _ hv1
   omega
 . exact hd
theorem zhe {β v1 um un d r:Nat} (hv1:β<=2*v1) (hum:um<=v1) (hun:un<β) (hd:um*β+un=d*v1+r) (hr:r<v1):d<=β+1:=by
 rcases uL (β+1) d with h | h
 . exfalso
   have b:(β+2)*v1<=d*v1:=Nat.mul_le_mul_right _ (by omega);have e:um*β<=v1*β:=Nat.mul_le_mul_right _ hum;rw [Nat.add_mul,uH β v1] at b
   omega
 . exact h
theorem zhb {β v2 u2 d r:Nat} (hv2:v2<β) (hd:d<=β) (hr:β<=r):d*v2<=r*β+u2:=by
 have b:d*v2<=β*v2:=Nat.mul_le_mul_right _ hd
 have e:β*v2<=β*β:=Nat.mul_le_mul_left _ (by omega)
 have j:β*β<=r*β:=Nat.mul_le_mul_right _ hr
 omega
theorem zcq {u v d u' B:Nat} (hd1:u / v<=d) (hd2:d<=u / v+1) (hv:0<v) (h:u' +d*v=u+0*B):d=u / v/\u' =u % v:=by
 have j:=Nat.div_add_mod u v
 have l:=Nat.mod_lt u hv
 rw [Nat.zero_mul,Nat.add_zero] at h
 have e:d=u / v:=by
  rcases uL (u / v) d with b | b
  . have e:d=u / v+1:=by omega
    rw [e,Nat.add_mul,Nat.one_mul,uH] at h
    omega
  . omega
 refine ⟨e,?_⟩
 rw [e,uH] at h
 omega
theorem zff {u v d u' B:Nat} (hd1:u / v<=d) (hd2:d<=u / v+1) (hv:0<v) (hB:u' <B) (h:u' +d*v=u+1*B):d=u / v+1/\u' +v=u % v+B:=by
 have j:=Nat.div_add_mod u v
 have l:=Nat.mod_lt u hv
 rw [Nat.one_mul] at h
 have e:d=u / v+1:=by
  rcases uL (u / v) d with b | b
  . omega
  . have e:d=u / v:=by omega
    rw [e,uH] at h
    omega
 refine ⟨e,?_⟩
 rw [e,Nat.add_mul,Nat.one_mul,uH] at h
 omega
theorem zoy {β lo un cy bo d x y s bo' P:Nat} (hβ:0<β) (hs:s+y+bo=x+bo' *β) (hy:y=(cy+d*un) % β) {L O:Nat} (hL:L+d*lo=O+(cy+bo)*P):
 (L+P*s)+d*(lo+P*un)=(O+P*x)+((cy+d*un) / β+bo')*(P*β):=by
 have b:=Nat.div_add_mod (cy+d*un) β
 rw [<- hy] at b
 have e:P*(s+y+bo)=P*(x+bo' *β):=by rw [hs]
 have j:P*(cy+d*un)=P*(β*((cy+d*un) / β)+y):=by rw [b]
 generalize (cy+d*un) / β=q at*
 simp only [Nat.mul_add,Nat.add_mul,Nat.mul_assoc,uH,Nat.mul_left_comm] at e j hL |-
 omega
theorem zhv {β v1 v2 u2 top p ul vl u v:Nat} (hu:u=(top*β+u2)*p+ul) (hv:v=(v1*β+v2)*p+vl) (hu2:u2<β) (hul:ul<p) (hv1:0<v1):u / v<=top / v1:=by
 rw [Nat.le_div_iff_mul_le hv1]
 have l:u<(top+1)*(β*p):=by
  have b:(top*β+u2+1)*p<=(top+1)*β*p:=Nat.mul_le_mul_right _ (by rw [Nat.add_mul,Nat.one_mul];omega)
  rw [Nat.add_mul _ 1,Nat.one_mul] at b
  rw [hu, <- Nat.mul_assoc];omega
 have m:u / v*v<=u:=Nat.div_mul_le_self u v
 have j:u / v*(v1*(β*p))<=u / v*v:=by
  apply Nat.mul_le_mul_left
  rw [hv,Nat.add_mul,Nat.mul_assoc];omega
 have e:u / v*v1*(β*p)<(top+1)*(β*p):=by rw [Nat.mul_assoc];omega
 have:=Nat.lt_of_mul_lt_mul_right e
 omega
theorem zot {β v1 v2 um un u2 p ul vl u v:Nat} (hu:u=((um*β+un)*β+u2)*p+ul) (hv:v=(v1*β+v2)*p+vl) (hv2:v2<β) (hvl:vl<p) (hlt:u<β*v):um<=v1:=by
 rcases uL v1 um with h | h
 . exfalso
   have m:v<(v1+1)*(β*p):=by
    have b:(v1*β+v2+1)*p<=(v1+1)*β*p:=Nat.mul_le_mul_right _ (by rw [Nat.add_mul,Nat.one_mul];omega);rw [Nat.add_mul _ 1,Nat.one_mul] at b;rw [hv, <- Nat.mul_assoc];omega
   have y:(v1+1)*(β*p)<=um*(β*p):=Nat.mul_le_mul_right _ h;have l:β*v<=β*(um*(β*p)):=Nat.mul_le_mul_left _ (by omega)
   have r:β*(um*(β*p))<=u:=by
    have e:β*(um*(β*p))=um*β*β*p:=by simp only [Nat.mul_assoc,uH,Nat.mul_left_comm]
    have j:um*β*β*p<=((um*β+un)*β+u2)*p:=Nat.mul_le_mul_right _ (by rw [Nat.add_mul];omega);rw [e,hu];omega
   omega
 . exact h
theorem zz {ds:List Nat} {k:Nat} (hk:k<ds.length):ds.getD k 0=ds[k]:=by
 rw [List.getD_eq_getElem?_getD,List.getElem?_eq_getElem hk];rfl
theorem Xb {ds:List Nat} {k:Nat} (hk:ds.length<=k):ds.getD k 0=0:=by
 rw [List.getD_eq_getElem?_getD,List.getElem?_eq_none hk];rfl
theorem zJ (β:Nat) (ds:List Nat) (k:Nat):val β (ds.take (k+1))=val β (ds.take k)+β ^ k*ds.getD k 0:=by
 rcases uL k ds.length with h | h
 . rw [zz h,yY β ds k h]
 . rw [Xb h,uJ (by omega),uJ h];simp
theorem zlm (β:Nat) (ds:List Nat) (k d:Nat) (hk:k<ds.length):val β (ds.set k d)+β ^ k*ds[k]=val β ds+β ^ k*d:=by
 have e:=xE β ds k (by omega)
 have b:=xE β (ds.set k d) k (by simp;omega)
 rw [Y8 β ds k hk] at e
 rw [Y8 β (ds.set k d) k (by simpa using hk)] at b
 have j:(ds.set k d).take k=ds.take k:=by rw [List.take_set_of_le (by omega)]
 have l:(ds.set k d).drop (k+1)=ds.drop (k+1):=by rw [List.drop_set_of_lt (by omega)]
 rw [j,l] at b
 simp only [List.getElem_set_self] at b
 rw [e,b,Nat.mul_add,Nat.mul_add];omega
theorem zi1 {β i D A B c x y:Nat} (h:D+c*β ^ i=A+B):(D+β ^ i*((c+x+y) % β))+(c+x+y) / β*β ^ (i+1)=(A+β ^ i*x)+(B+β ^ i*y):=by
 have b:=Nat.div_add_mod (c+x+y) β
 have e:β ^ i*(c+x+y)=β ^ i*(β*((c+x+y) / β)+(c+x+y) % β):=by rw [b]
 generalize (c+x+y) / β=q at*
 generalize (c+x+y) % β=r at*
 rw [Nat.pow_succ]
 simp only [Nat.mul_add,Nat.add_mul,Nat.mul_assoc,uH,Nat.mul_left_comm] at e h |-
 omega
theorem zlq {β i D A B b x y s b' :Nat} (h:D+B=A+b*β ^ i) (hs:s+y+b=x+b' *β):(D+β ^ i*s)+(B+β ^ i*y)=(A+β ^ i*x)+b' *β ^ (i+1):=by
 have e:β ^ i*(s+y+b)=β ^ i*(x+b' *β):=by rw [hs]
 rw [Nat.pow_succ]
 simp only [Nat.mul_add,Nat.add_mul,Nat.mul_assoc,uH,Nat.mul_left_comm] at e h |-
 omega
theorem zox {β P k O O' c x y o Y Z:Nat} (h:O+c*(P*β ^ k)=Z+x*P*Y) (hs:O' +P*β ^ k*o=O+P*β ^ k*((c+x*y+o) % β)):
 O' +(c+x*y+o) / β*(P*β ^ (k+1))=Z+x*P*(Y+β ^ k*y):=by
 have b:=Nat.div_add_mod (c+x*y+o) β
 have e:P*β ^ k*(c+x*y+o)=P*β ^ k*(β*((c+x*y+o) / β)+(c+x*y+o) % β):=by rw [b]
 generalize (c+x*y+o) / β=q at*
 generalize (c+x*y+o) % β=r at*
 rw [Nat.pow_succ]
 simp only [Nat.mul_add,Nat.add_mul,Nat.mul_assoc,uH,Nat.mul_left_comm] at e h hs |-
 omega
theorem zl8 {β c x y o:Nat} (hc:c<β) (hx:x<β) (hy:y<β) (ho:o<β):c+x*y+o<β*β:=by
 have b:x*y<=(β - 1)*(β - 1):=Nat.mul_le_mul (by omega) (by omega)
 obtain ⟨g,rfl⟩:∃ g,β=g+1:=⟨β - 1,by omega⟩
 simp only [Nat.add_sub_cancel] at b
 rw [Nat.add_mul,Nat.mul_add]
 omega
theorem ziq {β d x r:Nat} (hd:0<d) (hr:r<d) (hx:x<β):(r*β+x) / d<β/\(r*β+x) % d<d:=by
 refine ⟨(Nat.div_lt_iff_lt_mul hd).2 ?_,Nat.mod_lt _ hd⟩
 have:(r+1)*β<=d*β:=Nat.mul_le_mul_right _ (by omega)
 rw [Nat.add_mul,Nat.one_mul] at this
 rw [uH β d]
 omega
theorem zs2 {β d x r Q A:Nat} (h:A=Q*d+r):x+β*A=((r*β+x) / d+β*Q)*d+(r*β+x) % d:=by
 have b:=Nat.div_add_mod (r*β+x) d
 have e:(r*β+x) / d*d+(r*β+x) % d=r*β+x:=by rw [uH];exact b
 rw [h,Nat.add_mul]
 simp only [Nat.mul_add,Nat.add_mul,Nat.mul_assoc,uH,Nat.mul_left_comm] at e |-
 omega
theorem VK (β:Nat) (ds:List Nat) (k d:Nat) (hk:k<ds.length):val β ((ds.set k d).drop k)=d+β*val β (ds.drop (k+1)):=by
 rw [Y8 β (ds.set k d) k (by simpa using hk),List.drop_set_of_lt (by omega)]
 simp only [List.getElem_set_self]
theorem zs4 {β s i D A x:Nat} {o:Nat} (h:D+β ^ i*o=A*s):(D+β ^ i*(o+x*s % β))+β ^ (i+1)*(x*s / β)=(A+β ^ i*x)*s:=by
 have b:=Nat.div_add_mod (x*s) β
 have e:β ^ i*(x*s)=β ^ i*(β*(x*s / β)+x*s % β):=by rw [b]
 generalize x*s / β=q at*
 generalize x*s % β=r at*
 rw [Nat.pow_succ,Nat.add_mul]
 simp only [Nat.mul_add,Nat.add_mul,Nat.mul_assoc,uH,Nat.mul_left_comm] at e h |-
 omega
theorem zgj {n a b:Nat} (hb:b<2 ^ n):(2 ^ n*a) ||| b=2 ^ n*a+b:=(Nat.two_pow_add_eq_or_of_lt hb a).symm
theorem V4 {n a b:Nat} (hb:b<2 ^ n):b ||| (2 ^ n*a)=b+2 ^ n*a:=by rw [Nat.or_comm,zgj hb,Nat.add_comm]
theorem zho {s t x:Nat} (hs:0<s):x*s % (s*t)=s*(x % t):=by rw [uH x s,Nat.mul_mod_mul_left]
theorem zmz {s t i A x:Nat} (hs:0<s) (ht:0<t):(A+(s*t) ^ (i+1)*x) / s=A / s+(s*t) ^ i*(t*x):=by
 have e:(s*t) ^ (i+1)*x=s*((s*t) ^ i*(t*x)):=by
  rw [Nat.pow_succ];simp only [Nat.mul_assoc,uH,Nat.mul_left_comm]
 rw [e,Nat.add_mul_div_left _ _ hs]
theorem zk0 {s t x:Nat} (ht:0<t):t*x=t*(x % s)+s*t*(x / s):=by
 conv=>lhs;rw [<- Nat.mod_add_div x s]
 rw [Nat.mul_add]
 simp only [Nat.mul_assoc,uH,Nat.mul_left_comm]
def chr (d:Nat):UInt8:=UInt8.ofNat (48+d)
def dig (c:UInt8):Nat:=c.toNat - 48
def xZ (c:UInt8):Bool:=decide (48<=c.toNat) && decide (c.toNat<=57)
def ZE (l:List UInt8):Bool:=l.all xZ && !l.isEmpty
def zR (l:List UInt8):Nat:=l.foldl (fun n c=>10*n+dig c) 0
def dec (n:Nat):List UInt8:=if n=0 then [48] else (digs 10 n).reverse.map chr
theorem zs9 {d:Nat} (h:d<10):dig (chr d)=d:=by
 unfold dig chr
 rw [UInt8.toNat_ofNat']
 have:(48+d) % 2 ^ 8=48+d:=Nat.mod_eq_of_lt (by omega)
 omega
theorem zmf {d:Nat} (h:d<10):xZ (chr d)=true:=by
 unfold xZ chr
 rw [UInt8.toNat_ofNat']
 have:(48+d) % 2 ^ 8=48+d:=Nat.mod_eq_of_lt (by omega)
 simp [this];omega
theorem zel {c:UInt8} (h:xZ c=true):chr (dig c)=c:=by
 simp [xZ] at h
 unfold chr dig
 apply UInt8.toNat_inj.1
 rw [UInt8.toNat_ofNat']
 have:c.toNat<2 ^ 8:=UInt8.toNat_lt c
 have:(48+(c.toNat - 48)) % 2 ^ 8=48+(c.toNat - 48):=Nat.mod_eq_of_lt (by omega)
 omega
theorem zra {c:UInt8} (h:xZ c=true):dig c<10:=by
 simp [xZ] at h;unfold dig;omega
theorem zfi {d:Nat} (h:d<10):(chr d).toNat=48+d:=by
 unfold chr;rw [UInt8.toNat_ofNat'];exact Nat.mod_eq_of_lt (by omega)
theorem VL (l:List UInt8):∀ n:Nat,l.foldl (fun n c=>10*n+dig c) n=n*10 ^ l.length+zR l:=by
 induction l with
 | nil=>intro n;simp [zR]
 | cons c l ih=>
   intro n
   have e:zR (c :: l)=(10*0+dig c)*10 ^ l.length+zR l:=by
    show List.foldl (fun n c=>10*n+dig c) (10*0+dig c) l=_
    exact ih _
   rw [List.foldl_cons,ih,e,List.length_cons,Nat.pow_succ];simp only [Nat.mul_add,Nat.add_mul,Nat.mul_assoc,uH,Nat.mul_left_comm,Nat.mul_zero,Nat.zero_add]
   omega
theorem XV (a b:List UInt8):zR (a ++ b)=zR a*10 ^ b.length+zR b:=by
 rw [zR,List.foldl_append,VL b];rfl
theorem zgw (a:List UInt8) (c:UInt8):zR (a ++ [c])=10*zR a+dig c:=by
 rw [XV];simp [zR];omega
theorem zb3 (c:UInt8) (l:List UInt8):zR (c :: l)=dig c*10 ^ l.length+zR l:=by
 rw [zR,List.foldl_cons,VL];simp
theorem YK (l:List UInt8):zR l=val 10 (l.reverse.map dig):=by
 induction l with
 | nil=>rfl
 | cons c l ih=>rw [zb3,List.reverse_cons,List.map_append,ZN,ih];simp [val];rw [uH];omega
theorem zbn {l:List UInt8} (h:l.all xZ=true):zR l<10 ^ l.length:=by
 rw [YK]
 have b:zQ 10 (l.reverse.map dig):=by
  intro d hd
  simp at hd
  obtain ⟨c,e,rfl⟩:=hd
  exact zra (List.all_eq_true.1 h c e)
 simpa using Yy b
theorem zc7 (n:Nat):zQ 10 (digs 10 n):=(ZR (by omega) n).1.1
theorem zb8 (n:Nat):(dec n).all xZ=true:=by
 unfold dec
 split
 . rfl
 rw [List.all_eq_true]
 intro c b;simp only [List.mem_map,List.mem_reverse] at b;obtain ⟨d,hd,rfl⟩:=b;exact zmf (zc7 n d hd)
theorem zqu (n:Nat):dec n≠[]:=by
 unfold dec
 split
 . simp
 rename_i h
 rw [YJ (by omega) (by omega)];simp
theorem zdd (n:Nat):ZE (dec n)=true:=by
 unfold ZE;rw [zb8];simp [zqu]
theorem Zx (n:Nat):zR (dec n)=n:=by
 unfold dec
 split
 . rename_i h;subst h;decide
 rw [YK, <- List.map_reverse,List.reverse_reverse,List.map_map]
 have e:(digs 10 n).map (dig ∘ chr)=digs 10 n:=by
  have:∀ l:List Nat,zQ 10 l->l.map (dig ∘ chr)=l:=by
   intro l
   induction l with
   | nil=>intro _;rfl
   | cons d l ih=>intro h;rw [List.map_cons,ih h.tail];simp [zs9 h.head]
  exact this _ (zc7 n)
 rw [e];exact (ZR (by omega) n).2
theorem zbe {m n:Nat} (h:dec m=dec n):m=n:=by rw [<- Zx m,h,Zx]
theorem vt:dec 0=[48]:=by simp [dec]
theorem zpa (n:Nat) (hn:n≠0):∀ c,(dec n).head?=some c->c≠48:=by
 intro c b
 unfold dec at b
 rw [if_neg hn,List.head?_map,List.head?_reverse] at b
 have j:=ZR (β:=10) (by omega) n
 cases hl:(digs 10 n).getLast? with
 | none=>rw [hl] at b;cases b
 | some d=>
   rw [hl] at b;simp at b;subst b;have l:d<10:=j.1.1 d (List.mem_of_getLast? hl);have m:d≠0:=fun e=>j.1.2 (by rw [hl,e])
   intro e;have:=congrArg UInt8.toNat e;rw [zfi l] at this;simp at this
   omega
theorem zju {l:List UInt8} (h:ZE l=true) (b:l.head?≠some 48\/l.length=1):dec (zR l)=l:=by
 simp [ZE] at h
 obtain ⟨r,z⟩:=h
 have C:zQ 10 (l.reverse.map dig):=by
  intro d hd
  simp at hd
  obtain ⟨c,m,rfl⟩:=hd
  exact zra (r c m)
 have B:∀ l:List UInt8,(∀ c∈l,xZ c=true)->l.map (chr ∘ dig)=l:=by
  intro l
  induction l with
  | nil=>intro _;rfl
  | cons c l ih=>intro h;rw [List.map_cons,ih (fun c m=>h c (List.mem_cons_of_mem _ m))];simp [zel (h c uP)]
 by_cases u:zR l=0
 rotate_left
 . have m:xP 10 (l.reverse.map dig):=by
    refine ⟨C,?_⟩;rw [List.getLast?_map,List.getLast?_reverse]
    cases l with
    | nil=>exact absurd rfl z
    | cons c l=>
      simp only [List.head?_cons,Option.map_some];intro e;injection e with e
      have j:=zel (r c uP);rw [e] at j
      rcases b with b | b
      . apply b;rw [<- j];rfl
      . have:l=[]:=uI (by simpa using b)
        subst this
        apply u
        simp [zR,e]
   unfold dec;rw [if_neg u,YK,m.digs (by omega), <- List.map_reverse,List.reverse_reverse,List.map_map,B l r]
 unfold dec
 rw [if_pos u]
 rcases b with b | b
 . exfalso
   cases l with
   | nil=>exact z rfl
   | cons c l=>
     simp at b;rw [zb3] at u;have m:=r c uP
     have y:dig c=0:=by
      rcases uN (dig c) with e | e
      . exact e
      . have:=Nat.mul_pos e (Nat.pow_pos (n:=l.length) (show 0<10 by omega));omega
     have j:=zel m;rw [y] at j;exact b j.symm
 . match l,b with
   | [c],_=>
     have y:dig c=0:=by simpa [zR] using u
     have j:=zel (r c uP);rw [y] at j;rw [<- j];rfl
theorem zdo (n:Nat) (hn:n≠0):(dec n).length=len 10 n:=by unfold dec;rw [if_neg hn];simp [len]
theorem zc0 (n:Nat):0<(dec n).length:=List.length_pos_iff.2 (zqu n)
theorem XX {n k:Nat} (h:n<10 ^ k) (hk:0<k):(dec n).length<=k:=by
 by_cases b:n=0
 . subst b;rw [vt];exact hk
 rw [zdo n b];exact xC (by omega) h
theorem ZB {n k:Nat} (h:(dec n).length<=k):n<10 ^ k:=by
 have b:=zbn (zb8 n)
 rw [Zx] at b
 exact uK b (Nat.pow_le_pow_right (by omega) h)
theorem Yw {β n:Nat} (hβ:10<=β):len β n<=(dec n).length:=by
 apply xC (by omega)
 exact uK (ZB (uA)) (Nat.pow_le_pow_left hβ _)
theorem znh {n m:Nat} {b:List Nat} (h:b ++ digs 10 m=digs 10 n) (hm:0<m):(b ++ [m % 10]) ++ digs 10 (m / 10)=digs 10 n:=by
 rw [<- h,YJ (by omega) hm];simp
def zu (q:Rat):List UInt8:=(if q.num<0 then [45] else []) ++ dec q.num.natAbs ++ (if q.den=1 then [] else 47 :: dec q.den)
def yC (M:Nat) (q:Rat):Prop:=(dec q.num.natAbs).length<=M/\(dec q.den).length<=M
instance (M:Nat) (q:Rat):Decidable (yC M q):=inferInstanceAs (Decidable (_/\_))
def zji (l:List UInt8) (q:Rat):Prop:=l=zu q/\yC 50000 q
def xy (l:List UInt8):Bool:=l.head? == some 45
def zp (l:List UInt8):List UInt8:=if xy l then l.tail else l
def ahead (c:UInt8) (l:List UInt8):List UInt8:=l.takeWhile (· != c)
def yy (c:UInt8) (l:List UInt8):List UInt8:=(l.dropWhile (· != c)).tail
def has (c:UInt8) (l:List UInt8):Bool:=l.contains c
def Ye (neg:Bool) (n d:Nat):Rat:=Rat.divInt (if neg then -(n:Int) else n) d
theorem YE {neg:Bool} {n d:Nat} (hc:Nat.Coprime n d) (hd:d≠0):(Ye neg n d).num=(if neg then -(n:Int) else n)/\(Ye neg n d).den=d:=by
 have b :Nat.Coprime (if neg then -(n:Int) else n).natAbs d:=by cases neg<;>simpa using hc
 have e:Ye neg n d=⟨if neg then -(n:Int) else n,d,hd,b⟩:=by rw [Rat.mk_eq_divInt];rfl
 rw [e];exact ⟨rfl,rfl⟩
theorem YO {l:List UInt8} (h:l.all xZ=true) {c:UInt8} (hc:xZ c=false):∀ x∈l,(x != c)=true:=by
 intro x e
 have b:=List.all_eq_true.1 h x e
 rw [bne_iff_ne]
 rintro rfl
 rw [b] at hc;cases hc
theorem X9:xZ 47=false:=by decide
theorem zg8:xZ 45=false:=by decide
theorem Vb {l t:List UInt8} {p:UInt8->Bool} (h:∀ x∈l,p x=true):(l ++ t).takeWhile p=l ++ t.takeWhile p:=by
 induction l with
 | nil=>rfl
 | cons c l ih=>simp [List.takeWhile_cons,h c uP,ih (fun x hx=>h x (List.mem_cons_of_mem _ hx))]
theorem zeo {l t:List UInt8} {p:UInt8->Bool} (h:∀ x∈l,p x=true):(l ++ t).dropWhile p=t.dropWhile p:=by
 induction l with
 | nil=>rfl
 | cons c l ih=>simp [List.dropWhile_cons,h c uP,ih (fun x hx=>h x (List.mem_cons_of_mem _ hx))]
theorem znw {c:UInt8} {l:List UInt8} (h:l.all xZ=true) (hc:xZ c=false) (t:List UInt8):ahead c (l ++ c :: t)=l:=by
 unfold ahead
 rw [Vb (YO h hc)];simp [List.takeWhile_cons]
theorem zj1 {c:UInt8} {l:List UInt8} (h:l.all xZ=true) (hc:xZ c=false) (t:List UInt8):yy c (l ++ c :: t)=t:=by
 unfold yy
 rw [zeo (YO h hc)];simp [List.dropWhile_cons]
theorem zr1 (c:UInt8) (l t:List UInt8):has c (l ++ c :: t)=true:=by unfold has;simp
theorem V7 {c:UInt8} {l:List UInt8} (h:has c l=false):ahead c l=l:=by
 unfold has at h;unfold ahead
 have e :c ∉ l:=by simpa using h
 have:=Vb (l:=l) (t:=[]) (p:=(· != c)) (by
  intro a b
  rw [bne_iff_ne]
  rintro rfl
  exact e b)
 simpa using this
theorem zkt {c:UInt8} {l:List UInt8} (h:l.all xZ=true) (hc:xZ c=false):has c l=false:=by
 unfold has
 rw [Bool.eq_false_iff]
 intro b
 have e:=List.contains_iff_mem.1 b
 have:=List.all_eq_true.1 h c e
 rw [this] at hc;cases hc
theorem zoe {c:UInt8} {l:List UInt8} (h:has c l=true):l=ahead c l ++ c :: yy c l:=by
 unfold has at h;unfold ahead yy
 have b:c∈l:=List.contains_iff_mem.1 h
 have e:(l.dropWhile (· != c)).head?=some c:=by
  cases hd:l.dropWhile (· != c) with
  | nil=>
    have j:=List.takeWhile_append_dropWhile (p:=(· != c)) (l:=l);rw [hd,List.append_nil] at j;rw [<- j] at b;have:=List.all_eq_true.1 (List.all_takeWhile (p:=(· != c)) (l:=l)) c b;simp at this
  | cons a t=>
    have:=List.head?_dropWhile_not (· != c) l;rw [hd] at this;simp at this;rw [this];rfl
 cases hd:l.dropWhile (· != c) with
 | nil=>rw [hd] at e;cases e
 | cons a t=>
   rw [hd] at e;injection e with e
   subst e;have:=List.takeWhile_append_dropWhile (p:=(· != a)) (l:=l);rw [hd] at this;exact this.symm
theorem Xk {l:List UInt8} (h:xy l=false):zp l=l:=by unfold zp;rw [h];rfl
theorem VV {l:List UInt8} (h:xy l=true):l=45 :: zp l:=by
 unfold zp;rw [h]
 unfold xy at h
 cases l with
 | nil=>simp at h
 | cons c l=>simp at h;subst h;rfl
theorem zsz (l:List UInt8):l=(if xy l then [45] else []) ++ zp l:=by
 by_cases h:xy l=true
 . rw [if_pos h];exact VV h
 rw [if_neg h,Xk (by simpa using h)];rfl
theorem zew {l t:List UInt8} (h:ZE l=true):xy (l ++ t)=false:=by
 simp [ZE] at h
 unfold xy
 cases l with
 | nil=>simp at h
 | cons c l=>
   have b:=h.1 c uP
   simp
   rintro rfl
   simp [zg8] at b
theorem zet {l:List UInt8} {q:Rat} (h:l=zu q):xy l=decide (q.num<0)/\ahead 47 (zp l)=dec q.num.natAbs/\has 47 (zp l)=decide (q.den≠1)/\
 (q.den≠1->yy 47 (zp l)=dec q.den):=by
 have m:xy (dec q.num.natAbs ++ (if q.den=1 then [] else 47 :: dec q.den))=false:=zew (zdd _)
 have e:xy l=decide (q.num<0):=by
  rw [h,zu,List.append_assoc]
  by_cases b:q.num<0
  . rw [if_pos b];simp [xy,b]
  rw [if_neg b,List.nil_append,m];simp [b]
 have hu:zp l=dec q.num.natAbs ++ (if q.den=1 then [] else 47 :: dec q.den):=by
  by_cases b:q.num<0
  rotate_left
  . rw [Xk (by rw [e];simpa using b),h,zu,if_neg b,List.nil_append]
  have:=VV (l:=l) (by rw [e];simpa using b)
  rw [h,zu,if_pos b] at this;simp only [List.cons_append,List.nil_append,List.cons.injEq,true_and] at this;rw [h,zu,if_pos b];simp only [List.cons_append,List.nil_append];rw [<- this]
 refine ⟨e,?_⟩
 rw [hu]
 by_cases hd:q.den=1
 . rw [if_pos hd,List.append_nil]
   have j:=zkt (zb8 q.num.natAbs) X9;refine ⟨V7 j,?_,fun h=>absurd hd h⟩;rw [j];simp [hd]
 rw [if_neg hd]
 exact ⟨znw (zb8 _) X9 _,by rw [zr1];simp [hd],fun _=>zj1 (zb8 _) X9 _⟩
theorem zfa {p q:Rat} (h:zu p=zu q):p=q:=by
 have e:=zet (l:=zu p) rfl
 have b:=zet (l:=zu p) h
 have u:dec p.num.natAbs=dec q.num.natAbs:=e.2.1.symm.trans b.2.1
 have C:=zbe u
 have y:decide (p.num<0)=decide (q.num<0):=e.1.symm.trans b.1
 have B:decide (p.den≠1)=decide (q.den≠1):=e.2.2.1.symm.trans b.2.2.1
 have j:(p.num<0)↔(q.num<0):=by simpa using y
 have m:(p.den=1)↔(q.den=1):=by
  have:(p.den≠1)↔(q.den≠1):=decide_eq_decide.1 B
  omega
 apply Rat.ext
 . by_cases r:p.num<0
   . have:=j.1 r;omega
   have:¬ q.num<0:=fun h=>r (j.2 h)
   omega
 by_cases hd:p.den=1
 . rw [hd,m.1 hd]
 have z :q.den≠1:=fun h=>hd (m.2 h)
 exact zbe ((e.2.2.2 hd).symm.trans (b.2.2.2 z))
def yc (l:List UInt8):Bool:=ZE l && (l.head? != some 48 || l.length == 1) && decide (l.length<=50000)
theorem zfw {n:Nat} (h:(dec n).length<=50000):yc (dec n)=true:=by
 unfold yc
 rw [zdd]
 by_cases b:n=0
 . subst b;rw [vt];decide
 have e:((dec n).head? != some 48)=true:=by
  rw [bne_iff_ne];intro j;exact zpa n b 48 j rfl
 rw [e];simp [h]
theorem ZL {l:List UInt8} (h:yc l=true):dec (zR l)=l/\l.length<=50000/\ZE l=true:=by
 unfold yc at h
 simp only [Bool.and_eq_true,Bool.or_eq_true,bne_iff_ne,ne_eq,beq_iff_eq,decide_eq_true_eq] at h
 exact ⟨zju h.1.1 h.1.2,h.2,h.1.1⟩
theorem XU {l:List UInt8} (hn:yc (ahead 47 (zp l))=true) (h0:xy l=true->ahead 47 (zp l)≠[48])
 (hd:has 47 (zp l)=true->yc (yy 47 (zp l))=true/\yy 47 (zp l)≠[48]/\yy 47 (zp l)≠[49]/\
   Nat.Coprime (zR (ahead 47 (zp l))) (zR (yy 47 (zp l)))):
 zji l (Ye (xy l) (zR (ahead 47 (zp l))) (if has 47 (zp l) then zR (yy 47 (zp l)) else 1)):=by
 obtain ⟨b,l1,_⟩:=ZL hn
 have z:=zsz l
 generalize M:xy l=s at*
 generalize hu:zp l=u at*
 have B:s=true->zR (ahead 47 u)≠0:=by
  intro G h
  rw [h,vt] at b
  exact h0 G b.symm
 by_cases r:has 47 u=true
 rotate_left
 . rw [if_neg r]
   have F :has 47 u=false:=by simpa using r
   have y:=V7 F;obtain ⟨p1,m⟩:=YE (neg:=s) (n:=zR (ahead 47 u)) (d:=1) (by simp) (by omega);have j:(Ye s (zR (ahead 47 u)) 1).num.natAbs=zR (ahead 47 u):=by rw [p1];cases s<;>simp
   refine ⟨?_,by
    unfold yC;rw [m,j,b]
    exact ⟨l1,by simp [dec,YJ (β:=10) (n:=1) (by omega) (by omega),Yv]⟩⟩
   unfold zu;rw [m,j,b,p1,z,if_pos rfl,List.append_nil,y]
   congr 1
   cases s with
   | false=>rw [if_neg (by simp),if_neg (by simp)]
   | true=>rw [if_pos rfl,if_pos rfl,if_pos (by have:=B rfl;rw [y] at this;omega)]
 obtain ⟨D,C,E,K⟩:=hd r
 obtain ⟨e,I,_⟩:=ZL D
 have L:zR (yy 47 u)≠0:=by
  intro h;rw [h,vt] at e;exact C e.symm
 have J:zR (yy 47 u)≠1:=by
  intro h;rw [h] at e;exact E (by rw [<- e];simp [dec,YJ (β:=10) (n:=1) (by omega) (by omega),Yv];decide)
 rw [if_pos r];obtain ⟨p1,m⟩:=YE (neg:=s) K L;have j:(Ye s (zR (ahead 47 u)) (zR (yy 47 u))).num.natAbs=zR (ahead 47 u):=by rw [p1];cases s<;>simp
 refine ⟨?_,by unfold yC;rw [m,j,b,e];exact ⟨l1,I⟩⟩;unfold zu;rw [m,j,b,e,if_neg J,p1,z];rw [List.append_assoc]
 congr 1
 rotate_left
 . exact zoe r
 cases s with
 | false=>rw [if_neg (by simp),if_neg (by simp)]
 | true=>rw [if_pos rfl,if_pos rfl,if_pos (by have:=B rfl;omega)]
theorem zlu:dec 1=[49]:=by simp [dec,YJ (β:=10) (n:=1) (by omega) (by omega),Yv];decide
theorem Zo {l:List UInt8} {q:Rat} (h:zji l q):
 yc (ahead 47 (zp l))=true/\(xy l=true->ahead 47 (zp l)≠[48])/\
 (has 47 (zp l)=true->yc (yy 47 (zp l))=true/\yy 47 (zp l)≠[48]/\yy 47 (zp l)≠[49]/\
   ahead 47 (zp l)≠[48]/\Nat.Coprime (zR (ahead 47 (zp l))) (zR (yy 47 (zp l))))/\
 q=Ye (xy l) (zR (ahead 47 (zp l))) (if has 47 (zp l) then zR (yy 47 (zp l)) else 1):=by
 obtain ⟨z,j,B,u⟩:=zet h.1
 have r:=h.2
 have C:dec q.num.natAbs=[48]->q.num=0:=by
  intro e
  have:q.num.natAbs=0:=zbe (e.trans vt.symm)
  omega
 have y:q.num=if decide (q.num<0)=true then -(q.num.natAbs:Int) else q.num.natAbs:=by
  by_cases b:q.num<0
  . simp [b];omega
  simp [b];omega
 refine ⟨by rw [j];exact zfw r.1,?_,?_,?_⟩
 . rw [z,j]
   intro b e;have:=C e;simp at b
   omega
 . rw [B]
   intro hd;have m :q.den≠1:=by simpa using hd
   rw [j,u m,Zx,Zx];refine ⟨zfw r.2,?_,?_,?_,q.reduced⟩
   . intro e;exact q.den_nz (zbe (e.trans vt.symm))
   . intro e;exact m (zbe (e.trans zlu.symm))
   . intro e
     have b:=C e;have:=q.reduced;rw [b] at this;simp at this;exact m this
 . rw [z,j,B,Zx]
   by_cases hd:q.den=1
   rotate_left
   . have:decide (q.den≠1)=true:=by simp [hd]
     rw [this,if_pos rfl,u hd,Zx,Ye, <- y,Rat.num_divInt_den]
   have:decide (q.den≠1)=false:=by simp [hd]
   rw [this,if_neg (by simp),Ye, <- y]
   conv=>lhs;rw [<- Rat.num_divInt_den q,hd]
def zj (l:List UInt8):Option Rat:=
 let q:=Ye (xy l) (zR (ahead 47 (zp l))) (if has 47 (zp l) then zR (yy 47 (zp l)) else 1)
 if l=zu q/\yC 50000 q then some q else none
theorem yR {l:List UInt8} {q:Rat}:zj l=some q↔zji l q:=by
 unfold zj
 constructor
 rotate_left
 . intro h
   have e:=(Zo h).2.2.2
   simp only
   rw [<- e];exact if_pos h
 intro h
 simp only at h;generalize Ye (xy l) (zR (ahead 47 (zp l))) (if has 47 (zp l) then zR (yy 47 (zp l)) else 1)=r at h
 split at h
 . rename_i b;injection h with h;subst h;exact b
 cases h
theorem ZJ {l:List UInt8}:zj l=none↔∀ q,¬ zji l q:=by
 constructor
 . intro h q b;rw [yR.2 b] at h;cases h
 intro h
 cases hr:zj l with
 | none=>rfl
 | some q=>exact absurd (yR.1 hr) (h q)
theorem yO {q:Rat} (h:yC 50000 q):zj (zu q)=some q:=yR.2 ⟨rfl,h⟩
theorem zpe {l:List UInt8} (h:yc (ahead 47 (zp l))=false):zj l=none:=by
 rw [ZJ]
 intro q b
 have:=(Zo b).1
 rw [h] at this;cases this
theorem zp5 {l:List UInt8} (h:xy l=true) (h0:ahead 47 (zp l)=[48]):zj l=none:=by
 rw [ZJ]
 intro q b
 exact (Zo b).2.1 h h0
theorem Z1 {l:List UInt8} (h:has 47 (zp l)=true) (b:yc (yy 47 (zp l))=false\/yy 47 (zp l)=[48]\/yy 47 (zp l)=[49]\/ahead 47 (zp l)=[48]):zj l=none:=by
 rw [ZJ]
 intro q j
 obtain ⟨e,m,u,r,_⟩:=(Zo j).2.2.1 h
 rcases b with b | b | b | b
 . rw [b] at e;cases e
 . exact m b
 . exact u b
 . exact r b
theorem Y5 (s:Bool) (n:Nat):(Ye s n 1).num=(if s then -(n:Int) else n)/\(Ye s n 1).den=1:=YE (by simp) (by omega)
theorem Vu {l:List UInt8} (h:yc (ahead 47 (zp l))=true) (h0:xy l=true->ahead 47 (zp l)≠[48]) (hh:has 47 (zp l)=false):zj l=some (Ye (xy l) (zR (ahead 47 (zp l))) 1):=by
 rw [yR]
 have:=XU h h0 (by rw [hh];intro h;cases h)
 rw [hh] at this
 simpa using this
theorem zc2 {s:Bool} {n d:Nat} (hd:d≠0) (h:(Ye s n d).den=d):Nat.Coprime n d:=by
 unfold Ye at h
 rw [Rat.den_divInt,if_neg (by omega)] at h
 have u:(d:Int).gcd (if s then -(n:Int) else n)=Nat.gcd n d:=by
  cases s<;>simp [Int.gcd,Nat.gcd_comm]
 rw [u] at h
 have l:0<Nat.gcd n d:=Nat.gcd_pos_of_pos_right _ (by omega)
 have e:Nat.gcd n d ∣ d:=Nat.gcd_dvd_right n d
 obtain ⟨k,b⟩:=e
 have r:d / Nat.gcd n d=k:=by
  conv=>lhs;lhs;rw [b]
  exact Nat.mul_div_cancel_left _ l
 have j:(d:Int).natAbs=d:=Int.natAbs_natCast d
 rw [j,r] at h
 have m:Nat.gcd n d*d=1*d:=by rw [Nat.one_mul];conv=>lhs;rhs;rw [<- h]
                              exact b.symm
 exact Nat.eq_of_mul_eq_mul_right (by omega) m
theorem zgc {l:List UInt8} (h:yc (ahead 47 (zp l))=true) (h0:xy l=true->ahead 47 (zp l)≠[48]) (hh:has 47 (zp l)=true)
 (h1:yc (yy 47 (zp l))=true) (h2:yy 47 (zp l)≠[48]) (h3:yy 47 (zp l)≠[49]):
 zj l=if (Ye (xy l) (zR (ahead 47 (zp l))) (zR (yy 47 (zp l)))).den=zR (yy 47 (zp l)) then some (Ye (xy l) (zR (ahead 47 (zp l))) (zR (yy 47 (zp l)))) else none:=by
 have b:zR (yy 47 (zp l))≠0:=by
  intro e
  have:=(ZL h1).1
  rw [e,vt] at this
  exact h2 this.symm
 split
 . rename_i hd
   rw [yR];have:=XU h h0 (fun _=>⟨h1,h2,h3,zc2 b hd⟩);rw [hh] at this
   simpa using this
 rename_i hd
 rw [ZJ];intro q j
 apply hd
 exact (YE ((Zo j).2.2.1 hh).2.2.2.2 b).2
theorem XP {l:List UInt8} (h1:yc l=true) (h2:l≠[48]):zR l≠0:=by
 intro e
 have:=(ZL h1).1
 rw [e,vt] at this
 exact h2 this.symm
theorem Vj {l:List UInt8} (h:yc l=true):len 4294967296 (zR l)<=50000:=by
 obtain ⟨b,j,m⟩:=ZL h
 have e:=Yw (β:=4294967296) (n:=zR l) (by omega)
 rw [b] at e
 omega
theorem ZZ {l:List UInt8} (h:yc l=true):l.all xZ=true/\l.length<=50000:=by
 obtain ⟨j,e,b⟩:=ZL h
 unfold ZE at b
 rw [Bool.and_eq_true] at b
 exact ⟨b.1,e⟩
theorem yC.len {M:Nat} {q:Rat} (h:yC M q):Go.Proofs.YtofmkndhocinmaaGreatDoor.len 4294967296 q.num.natAbs<=M/\Go.Proofs.YtofmkndhocinmaaGreatDoor.len 4294967296 (q.den:Int).natAbs<=M:=
 ⟨uC (Yw (by omega)) h.1,by rw [Int.natAbs_natCast];exact uC (Yw (by omega)) h.2⟩
structure y8 where
 den:Int
 cell:Nat->Nat->Int
 basic:Nat->Nat
 other:Nat->Nat
def y8.bare (T:y8) (r c:Nat):Nat->Nat->Int:=fun i k=>
 if i=r then (if k=c then T.den else -(T.cell r k)) else if k=c then T.cell i c else (T.cell i k*T.cell r c - T.cell i c*T.cell r k).tdiv T.den
def y8.pivot (T:y8) (r c:Nat):y8:=
 { den:=if T.cell r c<0 then -(T.cell r c) else T.cell r c,
      cell:=fun i k=>if T.cell r c<0 then -(T.bare r c i k) else T.bare r c i k,
      basic:=fun i=>if i=r then T.other (c - 1) else T.basic i,
      other:=fun k=>if k=c - 1 then T.basic r else T.other k }
def y8.enter (T:y8) (m:Nat) (but:Int):Nat->Nat
 | 0=>0
 | n+1=>if (T.other n:Int)≠but/\0<T.cell m (n+1)/\(T.enter m but n=0\/T.other n<T.other (T.enter m but n - 1)) then n+1 else T.enter m but n
def y8.ahead (T:y8) (room c i j:Nat):Prop:=
 T.cell i 0* -(T.cell j c)<T.cell j 0* -(T.cell i c)\/(T.cell i 0* -(T.cell j c)=T.cell j 0* -(T.cell i c)/\(T.basic i=room\/(T.basic j≠room/\T.basic i<T.basic j)))
instance (T:y8) (room c i j:Nat):Decidable (T.ahead room c i j):=by unfold y8.ahead;exact inferInstance
def y8.leave (T:y8) (room c:Nat):Nat->Option Nat
 | 0=>none
 | n+1=>if T.cell n c ≥ 0 then T.leave room c n else match T.leave room c n with
   | none=>some n
   | some j=>if T.ahead room c n j then some n else some j
def Fit (z:Int):Prop:=len 4294967296 z.natAbs<=8388608
structure y8.Fits (T:y8) (m L:Nat):Prop where
 den:0<T.den
 fden:Fit T.den
 cell:∀ i k,i<=m->k<L->Fit (T.cell i k)
theorem y8.enter_le (T:y8) (m:Nat) (but:Int) (n:Nat):T.enter m but n<=n:=by
 induction n with
 | zero=>exact Nat.le_refl 0
 | succ n ih=>
   unfold y8.enter
   split
   . exact uA
   omega
theorem y8.leave_lt (T:y8) (room c:Nat):∀ (n j:Nat),T.leave room c n=some j->j<n/\T.cell j c<0
 | 0,j,h=>by cases h
 | n+1,j,h=>by
   unfold y8.leave at h
   split at h
   . have:=y8.leave_lt T room c n j h;exact ⟨by omega,this.2⟩
   rename_i l
   split at h
   . injection h with h;subst h;exact ⟨by omega,by omega⟩
   rename_i e b
   split at h
   . injection h with h;subst h;exact ⟨by omega,by omega⟩
   injection h with h;subst h
   have:=y8.leave_lt T room c n e b;exact ⟨by omega,this.2⟩
def Fits (lo hi:Int) (zs:List Int):Prop:=∀ z∈zs,lo<=z/\z<hi
theorem zhr {a:Int} (h:a≠0):(a:Rat)≠0:=by
 intro e
 exact h (by exact_mod_cast e)
def Sz (X:Nat) (q:Rat):Prop:=q.num.natAbs<=X/\q.den<=X
theorem Sz.mono {X Y:Nat} {q:Rat} (h:Sz X q) (hXY:X<=Y):Sz Y q:=⟨uC h.1 hXY,uC h.2 hXY⟩
theorem zsg {X:Nat} {q:Rat} {s M:Int} (hs:s≠0) (h:q*s=M) (h1:M.natAbs<=X) (h2:s.natAbs<=X):Sz X q:=by
 have e:q=Rat.divInt M s:=by
  have j:=zhr hs
  rw [Rat.divInt_eq_div, <- h]
  grind
 have m:(s.gcd M:Int) ∣ s.sign*M:=Int.dvd_trans (Int.gcd_dvd_right s M) (Int.dvd_mul_left _ _)
 have r:0<s.gcd M:=Int.gcd_pos_of_ne_zero_left _ hs
 have l:(s.sign*M).natAbs<=M.natAbs:=by
  rw [Int.natAbs_mul,Int.natAbs_sign,if_neg hs];omega
 constructor
 rotate_left
 . rw [e,Rat.den_divInt,if_neg hs]
   exact uC (Nat.div_le_self _ _) h2
 rw [e,Rat.num_divInt]
 obtain ⟨t,b⟩:=m;rw [b,Int.mul_ediv_cancel_left _ (by omega)];rw [b,Int.natAbs_mul] at l;have j:t.natAbs<=(s.gcd M:Int).natAbs*t.natAbs:=Nat.le_mul_of_pos_left _ (by simpa using r)
 omega
theorem zht (q:Rat):((q.den:Int):Rat)≠0:=zhr (by have:=q.den_nz;omega)
theorem zeu (q:Rat):q*((q.den:Int):Rat)=(q.num:Rat):=by
 have h:=zht q
 conv=>lhs;lhs;rw [<- Rat.num_divInt_den q]
 rw [Rat.divInt_eq_div]
 grind
theorem Sz.zero:Sz 1 0:=⟨by decide,by decide⟩
theorem Sz.one:Sz 1 1:=⟨by decide,by decide⟩
theorem Sz.neg {X:Nat} {q:Rat} (h:Sz X q):Sz X (-q):=⟨by rw [Rat.neg_num,Int.natAbs_neg];exact h.1,by rw [Rat.neg_den];exact h.2⟩
theorem Sz.mul {X Y:Nat} {p q:Rat} (hp:Sz X p) (hq:Sz Y q):Sz (X*Y) (p*q):=by
 refine zsg (s:=(p.den:Int)*q.den) (M:=p.num*q.num) (Int.mul_ne_zero (by have:=p.den_nz;omega) (by have:=q.den_nz;omega)) ?_ ?_ ?_
 . have b:=zeu p
   have e:=zeu q
   push_cast at b e |-
   rw [<- b, <- e];grind
 . rw [Int.natAbs_mul];exact Nat.mul_le_mul hp.1 hq.1
 . rw [Int.natAbs_mul];exact Nat.mul_le_mul (by simpa using hp.2) (by simpa using hq.2)
theorem Sz.add {X Y:Nat} {p q:Rat} (hp:Sz X p) (hq:Sz Y q):Sz (2*(X*Y)) (p+q):=by
 refine zsg (s:=(p.den:Int)*q.den) (M:=p.num*q.den+q.num*p.den) (Int.mul_ne_zero (by have:=p.den_nz;omega) (by have:=q.den_nz;omega)) ?_ ?_ ?_
 . have b:=zeu p
   have e:=zeu q
   push_cast at b e |-
   rw [<- b, <- e];grind
 . have b:(p.num*q.den+q.num*p.den).natAbs<=(p.num*q.den).natAbs+(q.num*p.den).natAbs:=by omega
   rw [Int.natAbs_mul,Int.natAbs_mul] at b;have e:=Nat.mul_le_mul hp.1 (show (q.den:Int).natAbs<=Y by simpa using hq.2);have j:=Nat.mul_le_mul hq.1 (show (p.den:Int).natAbs<=X by simpa using hp.2);rw [uH Y X] at j
   omega
 . rw [Int.natAbs_mul]
   have:=Nat.mul_le_mul (show (p.den:Int).natAbs<=X by simpa using hp.2) (show (q.den:Int).natAbs<=Y by simpa using hq.2)
   omega
theorem Sz.short {X e:Nat} {q:Rat} (h:Sz X q) (hX:X<10 ^ e) (he:0<e):yC e q:=⟨XX (by have:=h.1;omega) he,XX (by have:=h.2;omega) he⟩
theorem yC.sz {e:Nat} {q:Rat} (h:yC e q):Sz (10 ^ e) q:=⟨Nat.le_of_lt (ZB h.1),Nat.le_of_lt (ZB h.2)⟩
abbrev Dz (e:Nat) (q:Rat):Prop:=Sz (10 ^ e) q
theorem Dz.add {e f g:Nat} {p q:Rat} (hp:Dz e p) (hq:Dz f q) (hg:e+f+1<=g):Dz g (p+q):=by
 refine (Sz.add hp hq).mono ?_
 have b:10 ^ (e+f+1)<=10 ^ g:=Nat.pow_le_pow_right (by omega) hg
 rw [Nat.pow_succ,Nat.pow_add] at b
 omega
theorem Dz.sub {e f g:Nat} {p q:Rat} (hp:Dz e p) (hq:Dz f q) (hg:e+f+1<=g):Dz g (p - q):=by rw [Rat.sub_eq_add_neg];exact Dz.add hp (Sz.neg hq) hg
theorem Dz.mul {e f g:Nat} {p q:Rat} (hp:Dz e p) (hq:Dz f q) (hg:e+f<=g):Dz g (p*q):=by
 refine (Sz.mul hp hq).mono ?_
 rw [<- Nat.pow_add]
 exact Nat.pow_le_pow_right (by omega) hg
theorem Dz.more {e f:Nat} {q:Rat} (h:Dz e q) (hf:e<=f):Dz f q:=h.mono (Nat.pow_le_pow_right (by omega) hf)
theorem Dz.short {e f:Nat} {q:Rat} (h:Dz e q) (hf:e<f):yC f q:=Sz.short h (Nat.pow_lt_pow_right (by omega) hf) (by omega)
theorem Dz.zero (e:Nat):Dz e 0:=Sz.zero.mono (Nat.pow_pos (by omega))
theorem Dz.one (e:Nat):Dz e 1:=Sz.one.mono (Nat.pow_pos (by omega))
def y8.stA (T:y8) (r c i k:Nat):Nat->Nat->Int:=fun i' k' =>if i' ≠r/\(i' <i\/(i' =i/\k' <k)) then T.bare r c i' k' else T.cell i' k'
def y8.stB (T:y8) (r c k:Nat):Nat->Nat->Int:=fun i' k' =>if i' =r then (if k' <k/\k' ≠c then -(T.cell r k') else T.cell r k') else T.bare r c i' k'
def stD (A:Nat->Nat->Int) (i k:Nat):Nat->Nat->Int:=fun i' k' =>if i' <i\/(i' =i/\k' <k) then -(A i' k') else A i' k'
section
variable (T:y8) (r c i k m L:Nat)
theorem y8.bare_col (h:i≠r):T.bare r c i c=T.cell i c:=by unfold y8.bare;rw [if_neg h,if_pos rfl]
theorem y8.stA_start (i' k' :Nat):T.stA r c 0 0 i' k' =T.cell i' k' :=by unfold y8.stA;rw [if_neg (by omega)]
theorem y8.stA_skip (i' k' :Nat):T.stA r c (r+1) 0 i' k' =T.stA r c r 0 i' k' :=by
 unfold y8.stA
 by_cases h:i' ≠r/\(i' <r\/(i' =r/\k' <0))
 . rw [if_pos h,if_pos (by omega)]
 rw [if_neg h,if_neg (by omega)]
theorem y8.stA_here:T.stA r c i k i k=T.cell i k:=by unfold y8.stA;rw [if_neg (by omega)]
theorem y8.stA_row (k' :Nat):T.stA r c i k r k' =T.cell r k' :=by unfold y8.stA;rw [if_neg (by omega)]
theorem y8.stA_col0:T.stA r c i 0 i c=T.cell i c:=by unfold y8.stA;rw [if_neg (by omega)]
theorem y8.stA_next (hi:i≠r) (hk:k≠c) (i' k' :Nat):T.stA r c i (k+1) i' k' =if i' =i/\k' =k then (T.cell i k*T.cell r c - T.cell i c*T.cell r k).tdiv T.den else T.stA r c i k i' k' :=by
 unfold y8.stA
 by_cases h:i' =i/\k' =k
 . obtain ⟨rfl,rfl⟩:=h
   rw [if_pos (by omega),if_pos ⟨rfl,rfl⟩];unfold y8.bare;rw [if_neg hi,if_neg hk]
 rw [if_neg h]
 by_cases b:i' ≠r/\(i' <i\/(i' =i/\k' <k))
 . rw [if_pos b,if_pos (by omega)]
 rw [if_neg b,if_neg (by omega)]
theorem y8.stA_col (hi:i≠r) (i' k' :Nat):T.stA r c i (c+1) i' k' =T.stA r c i c i' k' :=by
 unfold y8.stA
 by_cases h:i' =i/\k' =c
 . obtain ⟨rfl,rfl⟩:=h
   rw [if_pos (by omega),if_neg (by omega),y8.bare_col T r k' i' hi]
 by_cases b:i' ≠r/\(i' <i\/(i' =i/\k' <c))
 . rw [if_pos b,if_pos (by omega)]
 rw [if_neg b,if_neg (by omega)]
theorem y8.stA_end (hi:i≠r) (i' k' :Nat) (hk:k' <L):T.stA r c (i+1) 0 i' k' =if i' =i/\k' =c then T.cell i c else T.stA r c i L i' k' :=by
 unfold y8.stA
 by_cases h:i' =i/\k' =c
 . obtain ⟨rfl,rfl⟩:=h
   rw [if_pos (by omega),if_pos ⟨rfl,rfl⟩,y8.bare_col T r k' i' hi]
 rw [if_neg h]
 by_cases b:i' ≠r/\(i' <i\/(i' =i/\k' <L))
 . rw [if_pos b,if_pos (by omega)]
 rw [if_neg b,if_neg (by omega)]
theorem y8.stB_start (i' k' :Nat) (h:i' <=m):T.stB r c 0 i' k' =T.stA r c (m+1) 0 i' k' :=by
 unfold y8.stB y8.stA
 by_cases b:i' =r
 . subst b;rw [if_pos rfl,if_neg (by omega),if_neg (by omega)]
 rw [if_neg b,if_pos (by omega)]
theorem y8.stB_here:T.stB r c k r k=T.cell r k:=by unfold y8.stB;rw [if_pos rfl,if_neg (by omega)]
theorem y8.stB_next (hk:k≠c) (i' k' :Nat):T.stB r c (k+1) i' k' =if i' =r/\k' =k then -(T.cell r k) else T.stB r c k i' k' :=by
 unfold y8.stB
 by_cases b:i' =r
 rotate_left
 . rw [if_neg b,if_neg (show ¬ (i' =r/\k' =k) from fun h=>b h.1),if_neg b]
 subst b
 by_cases e:k' =k
 . subst e;rw [if_pos rfl,if_pos (by omega),if_pos ⟨rfl,rfl⟩]
 rw [if_pos rfl,if_neg (show ¬ (i' =i' /\k' =k) from fun h=>e h.2),if_pos rfl]
 by_cases j:k' <k/\k' ≠c
 . rw [if_pos j,if_pos (by omega)]
 rw [if_neg j,if_neg (by omega)]
theorem y8.stB_col (i' k' :Nat):T.stB r c (c+1) i' k' =T.stB r c c i' k' :=by
 unfold y8.stB
 by_cases b:i' =r
 rotate_left
 . rw [if_neg b,if_neg b]
 rw [if_pos b,if_pos b]
 by_cases e:k' <c/\k' ≠c
 . rw [if_pos e,if_pos (by omega)]
 rw [if_neg e,if_neg (by omega)]
theorem y8.stB_end (i' k' :Nat) (hk:k' <L):T.bare r c i' k' =if i' =r/\k' =c then T.den else T.stB r c L i' k' :=by
 unfold y8.stB y8.bare
 by_cases b:i' =r
 rotate_left
 . rw [if_neg b,if_neg (show ¬ (i' =r/\k' =c) from fun h=>b h.1),if_neg b]
 subst b
 by_cases e:k' =c
 . subst e;rw [if_pos rfl,if_pos rfl,if_pos ⟨rfl,rfl⟩]
 rw [if_pos rfl,if_neg e,if_neg (show ¬ (i' =i' /\k' =c) from fun h=>e h.2),if_pos rfl,if_pos ⟨hk,e⟩]
end
section
variable (A:Nat->Nat->Int) (i k m L:Nat)
theorem zm3 (i' k' :Nat):stD A 0 0 i' k' =A i' k' :=by unfold stD;rw [if_neg (by omega)]
theorem zpm:stD A i k i k=A i k:=by unfold stD;rw [if_neg (by omega)]
theorem zps (i' k' :Nat):stD A i (k+1) i' k' =if i' =i/\k' =k then -(A i k) else stD A i k i' k' :=by
 unfold stD
 by_cases h:i' =i/\k' =k
 . obtain ⟨rfl,rfl⟩:=h
   rw [if_pos (by omega),if_pos ⟨rfl,rfl⟩]
 rw [if_neg h]
 by_cases b:i' <i\/(i' =i/\k' <k)
 . rw [if_pos b,if_pos (by omega)]
 rw [if_neg b,if_neg (by omega)]
theorem zsx (i' k' :Nat) (hk:k' <L):stD A (i+1) 0 i' k' =stD A i L i' k' :=by
 unfold stD
 by_cases b:i' <i\/(i' =i/\k' <L)
 . rw [if_pos b,if_pos (by omega)]
 rw [if_neg b,if_neg (by omega)]
theorem zse (i' k' :Nat) (hi:i' <=m):stD A (m+1) 0 i' k' = -(A i' k'):=by unfold stD;rw [if_pos (by omega)]
end
end Go.Proofs.YtofmkndhocinmaaGreatDoor
