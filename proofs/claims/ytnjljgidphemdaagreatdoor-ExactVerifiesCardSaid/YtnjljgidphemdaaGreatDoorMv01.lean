/- Parts of the proof. -/
import Derived.Test.YtnjljgidphemdaaGreatDoorMv00
import Init.Data.List.Lemmas
import Derived.Below
import Derived.Deep.AppendLies
import Derived.Deep.Draws
import Derived.Laws.OwnMore
import Derived.Laws.Rows
import Derived.WalkKit
import Derived.BigQuiet
import Derived.Deep.QuietTactic
import Derived.WalkLawsBesides
import Derived.WalkSpells
import Derived.Test.YtnjljgidphemdaaGreatDoorRows
set_option linter.all false
namespace Go.Proofs.YtnjljgidphemdaaGreatDoor
open Proofs.Tryz
def val (β:Nat):List Nat->Nat
 | []=>0
 | d :: ds=>d+β*val β ds
def zF (β:Nat) (ds:List Nat):Prop:=∀ d∈ds,d<β
def yZ (β:Nat) (ds:List Nat):Prop:=zF β ds/\ds.getLast?≠some 0
theorem vX (β:Nat):val β []=0:=rfl
theorem YJ (β d:Nat) (ds:List Nat):val β (d :: ds)=d+β*val β ds:=rfl
theorem YA (β d:Nat):val β [d]=d:=by simp [val]
theorem Yr (β:Nat) (a b:List Nat):val β (a ++ b)=val β a+β ^ a.length*val β b:=by
 induction a with
 | nil=>simp [val]
 | cons d a ih=>simp only [List.cons_append,YJ,ih,List.length_cons,Nat.pow_succ,Nat.mul_add,Nat.add_assoc];rw [uH (β ^ a.length) β,Nat.mul_assoc]
theorem ZK (β:Nat) (a:List Nat) (d:Nat):val β (a ++ [d])=val β a+β ^ a.length*d:=by rw [Yr,YA]
theorem zam (β n:Nat):val β (List.replicate n 0)=0:=by
 induction n with
 | zero=>rfl
 | succ n ih=>rw [List.replicate_succ,YJ,ih];simp
theorem zF.nil (β:Nat):zF β []:=fun _ h=>by cases h
theorem zF.append {β:Nat} {a b:List Nat} (ha:zF β a) (hb:zF β b):zF β (a ++ b):=fun d h=>by
 rcases List.mem_append.1 h with h | h
 . exact ha d h
 . exact hb d h
theorem zF.cons {β d:Nat} {a:List Nat} (hd:d<β) (ha:zF β a):zF β (d :: a):=fun x h=>by
 rcases List.mem_cons.1 h with h | h
 . omega
 . exact ha x h
theorem zF.tail {β d:Nat} {a:List Nat} (h:zF β (d :: a)):zF β a:=fun x hx=>h x (List.mem_cons_of_mem _ hx)
theorem zF.head {β d:Nat} {a:List Nat} (h:zF β (d :: a)):d<β:=h d uP
theorem zF.take {β:Nat} {a:List Nat} (h:zF β a) (k:Nat):zF β (a.take k):=fun d hd=>h d (List.mem_of_mem_take hd)
theorem zF.drop {β:Nat} {a:List Nat} (h:zF β a) (k:Nat):zF β (a.drop k):=fun d hd=>h d (List.mem_of_mem_drop hd)
theorem zF.getD {β:Nat} {a:List Nat} (h:zF β a) (hβ:0<β) (k:Nat):a.getD k 0<β:=by
 rw [List.getD_eq_getElem?_getD]
 by_cases b:k<a.length
 . rw [List.getElem?_eq_getElem b];exact h _ (uO b)
 rw [List.getElem?_eq_none (by omega)];exact hβ
theorem zF.get {β:Nat} {a:List Nat} (h:zF β a) (k:Nat) (hk:k<a.length):a[k]<β:=h _ (uO hk)
theorem zF.replicate {β:Nat} (hβ:0<β) (n:Nat):zF β (List.replicate n 0):=fun d hd=>by rw [(List.mem_replicate.1 hd).2];exact hβ
theorem zF.set {β:Nat} {a:List Nat} (h:zF β a) (k d:Nat) (hd:d<β):zF β (a.set k d):=fun x b=>by
 rcases List.mem_or_eq_of_mem_set b with b | b
 . exact h x b
 . omega
theorem Xg {β:Nat} {ds:List Nat} (h:zF β ds):val β ds<β ^ ds.length:=by
 induction ds with
 | nil=>simp [val]
 | cons d ds ih=>
   have b:=ih h.tail;have j:=h.head;rw [YJ,List.length_cons,Nat.pow_succ];have e:β*(val β ds+1)<=β*β ^ ds.length:=Nat.mul_le_mul_left _ b;rw [Nat.mul_add,Nat.mul_one] at e;rw [uH (β ^ ds.length) β]
   omega
theorem xX (β:Nat) (ds:List Nat) (k:Nat) (hk:k<=ds.length):val β ds=val β (ds.take k)+β ^ k*val β (ds.drop k):=by
 conv=>lhs;rw [<- List.take_append_drop k ds,Yr,List.length_take,Nat.min_eq_left hk]
theorem Ve {α:Type} (ds:List α) (k:Nat) (hk:k<ds.length):ds.take (k+1)=ds.take k ++ [ds[k]]:=by
 rw [List.take_succ_eq_append_getElem hk]
theorem yV (β:Nat) (ds:List Nat) (k:Nat) (hk:k<ds.length):val β (ds.take (k+1))=val β (ds.take k)+β ^ k*ds[k]:=by
 rw [Ve ds k hk,ZK,List.length_take,Nat.min_eq_left (by omega)]
theorem Yf (β:Nat) (ds:List Nat) (k:Nat) (hk:k<ds.length):val β (ds.drop k)=ds[k]+β*val β (ds.drop (k+1)):=by
 rw [List.drop_eq_getElem_cons hk,YJ]
theorem yZ.nil (β:Nat):yZ β []:=⟨zF.nil β,by simp⟩
theorem yZ.last {β:Nat} {ds:List Nat} (h:yZ β ds) (hne:ds≠[]):ds[ds.length - 1]'(by have:=List.length_pos_iff.2 hne;omega)≠0:=by
 intro b
 apply h.2
 rw [List.getLast?_eq_getElem?,List.getElem?_eq_getElem (by have:=List.length_pos_iff.2 hne;omega),b]
theorem yZ.mk_ {β:Nat} {ds:List Nat} (h:zF β ds) (hl:∀ hne:0<ds.length,ds[ds.length - 1]≠0):yZ β ds:=by
 refine ⟨h,?_⟩
 intro b
 rw [List.getLast?_eq_getElem?] at b
 obtain ⟨j,e⟩:=List.getElem?_eq_some_iff.1 b
 exact hl (by omega) e
theorem yZ.ge {β:Nat} {ds:List Nat} (h:yZ β ds) (hne:ds≠[]):β ^ (ds.length - 1)<=val β ds:=by
 have b:=List.length_pos_iff.2 hne
 have j:=h.last hne
 have e:val β ds=val β (ds.take (ds.length - 1))+β ^ (ds.length - 1)*ds[ds.length - 1]:=by
  rw [<- yV β ds (ds.length - 1) (by omega),show ds.length - 1+1=ds.length by omega,List.take_length]
 rw [e]
 have:β ^ (ds.length - 1)*1<=β ^ (ds.length - 1)*ds[ds.length - 1]:=Nat.mul_le_mul_left _ (by omega)
 omega
theorem yZ.zero_iff {β:Nat} {ds:List Nat} (hβ:0<β) (h:yZ β ds):val β ds=0↔ds=[]:=by
 constructor
 rotate_left
 . rintro rfl;rfl
 intro e
 by_cases b:ds=[]
 . exact b
 have:=h.ge b
 have:=Nat.pow_pos (n:=ds.length - 1) hβ
 omega
theorem yZ.lt_of_length {β:Nat} {a b:List Nat} (hβ:0<β) (ha:zF β a) (hb:yZ β b) (h:a.length<b.length):val β a<val β b:=by
 have j:=Xg ha
 have l:=hb.ge (by intro e;subst e;simp at h)
 have m:β ^ a.length<=β ^ (b.length - 1):=Nat.pow_le_pow_right hβ (by omega)
 omega
theorem yZ.length_le {β:Nat} {a b:List Nat} (hβ:0<β) (ha:yZ β a) (hb:yZ β b) (h:val β a<=val β b):a.length<=b.length:=by
 rcases uL b.length a.length with e | e
 . have:=yZ.lt_of_length hβ hb.1 ha e;omega
 . exact e
theorem yZ.length_lt_pow {β:Nat} {a:List Nat} {k:Nat} (hβ:1<β) (ha:yZ β a) (h:val β a<β ^ k):a.length<=k:=by
 rcases uL k a.length with b | b
 . have j:=ha.ge (by intro e;subst e;simp at b)
   have l:β ^ k<=β ^ (a.length - 1):=Nat.pow_le_pow_right (by omega) (by omega)
   omega
 . exact b
theorem zvd {β:Nat} {a b:List Nat} (hl:a.length=b.length) (ha:zF β a) (hb:zF β b) (h:val β a=val β b):a=b:=by
 induction a generalizing b with
 | nil=>exact (uI hl.symm).symm
 | cons d a ih=>
   cases b with
   | nil=>simp at hl
   | cons c b=>
     rw [YJ,YJ] at h;have m:=ha.head;have j:=hb.head
     have e:d=c:=by
      have l:(d+β*val β a) % β=d:=by rw [Nat.add_mul_mod_self_left,Nat.mod_eq_of_lt m]
      have r:(c+β*val β b) % β=c:=by rw [Nat.add_mul_mod_self_left,Nat.mod_eq_of_lt j]
      rw [<- l, <- r,h]
     subst e
     have u:val β a=val β b:=by
      have:β*val β a=β*val β b:=by omega
      exact Nat.eq_of_mul_eq_mul_left (by omega) this
     rw [ih (by simpa using hl) ha.tail hb.tail u]
theorem yZ.inj {β:Nat} {a b:List Nat} (hβ:0<β) (ha:yZ β a) (hb:yZ β b) (h:val β a=val β b):a=b:=
 zvd (Nat.le_antisymm (ha.length_le hβ hb (by omega)) (hb.length_le hβ ha (by omega))) ha.1 hb.1 h
theorem zar {β:Nat} {a b:List Nat} (hl:a.length=b.length) (ha:zF β a) (k:Nat) (hk:k<a.length)
 (hsame:∀ j (m:j<a.length) (e:j<b.length),k<j->a[j]=b[j]) (hlt:a[k]<b[k]'(by omega)):val β a<val β b:=by
 have l:=xX β a k (by omega)
 have u:=xX β b k (by omega)
 rw [Yf β a k hk] at l
 rw [Yf β b k (by omega)] at u
 have r:a.drop (k+1)=b.drop (k+1):=by
  apply List.ext_getElem (by simp [hl])
  intro i m e
  rw [List.getElem_drop,List.getElem_drop]
  exact hsame _ _ _ (by omega)
 rw [r] at l
 have m:val β (a.take k)<β ^ k:=by
  have:=Xg (ha.take k)
  rwa [List.length_take,Nat.min_eq_left (by omega)] at this
 have e:β ^ k*(a[k]+β*val β (b.drop (k+1))+1)<=β ^ k*(b[k]'(by omega)+β*val β (b.drop (k+1))):=Nat.mul_le_mul_left _ (by omega)
 rw [Nat.mul_add _ _ 1,Nat.mul_one] at e
 omega
def digs (β:Nat) (n:Nat):List Nat:=if _h:β<=1\/n=0 then [] else (n % β) :: digs β (n / β)
termination_by n
decreasing_by exact Nat.div_lt_self (by omega) (by omega)
theorem Z4 (β:Nat):digs β 0=[]:=by rw [digs];simp
theorem ZM {β n:Nat} (hβ:1<β) (hn:0<n):digs β n=(n % β) :: digs β (n / β):=by rw [digs];rw [dif_neg (by omega)]
theorem Yx {β:Nat} (hβ:1<β) (n:Nat):yZ β (digs β n)/\val β (digs β n)=n:=by
 induction n using Nat.strongRecOn with
 | _ n ih=>
   by_cases j:n=0
   . subst j;rw [Z4];exact ⟨yZ.nil β,rfl⟩
   rw [ZM hβ (by omega)]
   obtain ⟨e,b⟩:=ih (n / β) (Nat.div_lt_self (by omega) hβ);refine ⟨⟨zF.cons (Nat.mod_lt _ (by omega)) e.1,?_⟩,?_⟩
   rotate_left
   . rw [YJ,b,Nat.mod_add_div]
   by_cases hd:digs β (n / β)=[]
   rotate_left
   . rw [List.getLast?_cons_of_ne_nil hd]
     exact e.2
   rw [hd] at b |-
   have m:n / β=0:=b.symm
   have l:n<β:=by
    rcases uL n β with h | h
    . exact h
    . have:=Nat.div_pos h (by omega);omega
   rw [Nat.mod_eq_of_lt l]
   simpa using j
theorem yZ.digs {β:Nat} {ds:List Nat} (hβ:1<β) (h:yZ β ds):digs β (val β ds)=ds:=
 yZ.inj (by omega) (Yx hβ _).1 h (Yx hβ _).2
def len (β n:Nat):Nat:=(digs β n).length
theorem yZ.length_eq {β:Nat} {ds:List Nat} (hβ:1<β) (h:yZ β ds):ds.length=len β (val β ds):=by rw [len,h.digs hβ]
theorem vm {β:Nat} (hβ:1<β) (n:Nat):n<β ^ len β n:=by
 have h:=Yx hβ n
 have:=Xg h.1.1
 rwa [h.2] at this
theorem y8 {β n k:Nat} (hβ:1<β) (h:n<β ^ k):len β n<=k:=by
 have b:=Yx hβ n
 exact b.1.length_lt_pow hβ (by rw [b.2];exact h)
theorem vI {β m n:Nat} (hβ:1<β) (h:m<=n):len β m<=len β n:=y8 hβ (Nat.lt_of_le_of_lt h (vm hβ n))
theorem VX {β:Nat} (hβ:1<β) (m n:Nat):len β (m*n)<=len β m+len β n:=by
 apply y8 hβ
 rw [Nat.pow_add]
 exact Nat.mul_lt_mul'' (vm hβ m) (vm hβ n)
theorem zqr {β:Nat} (hβ:1<β) (m n:Nat):len β (m+n)<=max (len β m) (len β n)+1:=by
 apply y8 hβ
 rw [Nat.pow_succ]
 have j:=vm hβ m
 have b:=vm hβ n
 have r:β ^ len β m<=β ^ max (len β m) (len β n):=Nat.pow_le_pow_right (by omega) (by omega)
 have e:β ^ len β n<=β ^ max (len β m) (len β n):=Nat.pow_le_pow_right (by omega) (by omega)
 have l:β ^ max (len β m) (len β n)*2<=β ^ max (len β m) (len β n)*β:=Nat.mul_le_mul_left _ hβ
 omega
theorem VD (β:Nat):len β 0=0:=by rw [len,Z4];rfl
theorem zb0 {β n:Nat} (hβ:1<β) (h:0<n):0<len β n:=by rw [len,ZM hβ h];simp
theorem zne {β v1 v2 u2 top d r p ul vl u v:Nat} (ht:top=d*v1+r) (hu:u=(top*β+u2)*p+ul) (hv:v=(v1*β+v2)*p+vl) (hul:ul<p) (hlt:u<β*v)
 (h:β<=d\/r*β+u2<d*v2):u / v<d:=by
 have b:0<v:=by
  rcases uN v with e | e
  . rw [e] at hlt;simp at hlt
  . exact e
 rcases h with h | h
 . have:=(Nat.div_lt_iff_lt_mul b).2 hlt
   omega
 . rw [Nat.div_lt_iff_lt_mul b]
   have j:top*β+u2+1<=d*(v1*β+v2):=by
    rw [ht,Nat.add_mul,Nat.mul_add,Nat.mul_assoc];omega
   have l:(top*β+u2+1)*p<=d*(v1*β+v2)*p:=Nat.mul_le_mul_right _ j;rw [Nat.add_mul _ 1 p,Nat.one_mul] at l;have m:d*v=d*(v1*β+v2)*p+d*vl:=by rw [hv,Nat.mul_add,Nat.mul_assoc]
   rw [m,hu]
   omega
theorem zsf {β v1 v2 u2 top d r p ul vl u v:Nat} (ht:top=d*v1+r) (hu:u=(top*β+u2)*p+ul) (hv:v=(v1*β+v2)*p+vl) (hvl:vl<p) (hlt:u<β*v)
 (hv1:1<=v1) (h:d*v2<=r*β+u2):d<=u / v+1:=by
 have b:0<v:=by
  rcases uN v with e | e
  . rw [e] at hlt;simp at hlt
  . exact e
 have z:u / v<β:=(Nat.div_lt_iff_lt_mul b).2 hlt
 rcases uL (u / v+1) d with hd | hd
 . exfalso
   have l:d*(v1*β+v2)<=top*β+u2:=by
    rw [ht,Nat.add_mul,Nat.mul_add,Nat.mul_assoc];omega
   have C:d*(v1*β+v2)*p<=(top*β+u2)*p:=Nat.mul_le_mul_right _ l
   have E:u<(u / v+1)*v:=by
    have:=Nat.div_add_mod u v;have:=Nat.mod_lt u b;rw [Nat.add_mul,Nat.one_mul,uH]
    omega
   have D:(u / v+1)*v<=(u / v+1)*((v1*β+v2+1)*p):=by
    apply Nat.mul_le_mul_left
    rw [hv,Nat.add_mul _ 1 p,Nat.one_mul];omega
   have y:d*(v1*β+v2)*p<(u / v+1)*(v1*β+v2+1)*p:=by
    rw [Nat.mul_assoc (u / v+1)];omega
   have j:d*(v1*β+v2)<(u / v+1)*(v1*β+v2+1):=Nat.lt_of_mul_lt_mul_right y;have m:(u / v+1+1)*(v1*β+v2)<=d*(v1*β+v2):=Nat.mul_le_mul_right _ (by omega);rw [Nat.add_mul (u / v+1) 1,Nat.one_mul] at m;rw [Nat.mul_add (u / v+1) _ 1,Nat.mul_one] at j;have B:1*β<=v1*β:=Nat.mul_le_mul_right _ hv1
   omega
 . exact hd
theorem zki {β v1 um un d r:Nat} (hv1:β<=2*v1) (hum:um<=v1) (hun:un<β) (hd:um*β+un=d*v1+r) (hr:r<v1):d<=β+1:=by
 rcases uL (β+1) d with h | h
 . exfalso
   have b:(β+2)*v1<=d*v1:=Nat.mul_le_mul_right _ (by omega);have e:um*β<=v1*β:=Nat.mul_le_mul_right _ hum;rw [Nat.add_mul,uH β v1] at b
   omega
 . exact h
theorem zkg {β v2 u2 d r:Nat} (hv2:v2<β) (hd:d<=β) (hr:β<=r):d*v2<=r*β+u2:=by
 have b:d*v2<=β*v2:=Nat.mul_le_mul_right _ hd
 have e:β*v2<=β*β:=Nat.mul_le_mul_left _ (by omega)
 have j:β*β<=r*β:=Nat.mul_le_mul_right _ hr
 omega
theorem ze1 {u v d u' B:Nat} (hd1:u / v<=d) (hd2:d<=u / v+1) (hv:0<v) (h:u' +d*v=u+0*B):d=u / v/\u' =u % v:=by
 have j:=Nat.div_add_mod u v
 have l:=Nat.mod_lt u hv
 rw [Nat.zero_mul,Nat.add_zero] at h
 have e:d=u / v:=by
  rcases uL (u / v) d with b | b
  . have e:d=u / v+1:=by omega
    rw [e,Nat.add_mul,Nat.one_mul,uH] at h
    omega
  . omega
 refine ⟨e,?_⟩
 rw [e,uH] at h
 omega
theorem zic {u v d u' B:Nat} (hd1:u / v<=d) (hd2:d<=u / v+1) (hv:0<v) (hB:u' <B) (h:u' +d*v=u+1*B):d=u / v+1/\u' +v=u % v+B:=by
 have j:=Nat.div_add_mod u v
 have l:=Nat.mod_lt u hv
 rw [Nat.one_mul] at h
 have e:d=u / v+1:=by
  rcases uL (u / v) d with b | b
  . omega
  . have e:d=u / v:=by omega
    rw [e,uH] at h
    omega
 refine ⟨e,?_⟩
 rw [e,Nat.add_mul,Nat.one_mul,uH] at h
 omega
theorem zsw {β lo un cy bo d x y s bo' P:Nat} (hβ:0<β) (hs:s+y+bo=x+bo' *β) (hy:y=(cy+d*un) % β) {L O:Nat} (hL:L+d*lo=O+(cy+bo)*P):
 (L+P*s)+d*(lo+P*un)=(O+P*x)+((cy+d*un) / β+bo')*(P*β):=by
 have b:=Nat.div_add_mod (cy+d*un) β
 rw [<- hy] at b
 have e:P*(s+y+bo)=P*(x+bo' *β):=by rw [hs]
 have j:P*(cy+d*un)=P*(β*((cy+d*un) / β)+y):=by rw [b]
 generalize (cy+d*un) / β=q at*
 simp only [Nat.mul_add,Nat.add_mul,Nat.mul_assoc,uH,Nat.mul_left_comm] at e j hL |-
 omega
theorem zk9 {β v1 v2 u2 top p ul vl u v:Nat} (hu:u=(top*β+u2)*p+ul) (hv:v=(v1*β+v2)*p+vl) (hu2:u2<β) (hul:ul<p) (hv1:0<v1):u / v<=top / v1:=by
 rw [Nat.le_div_iff_mul_le hv1]
 have l:u<(top+1)*(β*p):=by
  have b:(top*β+u2+1)*p<=(top+1)*β*p:=Nat.mul_le_mul_right _ (by rw [Nat.add_mul,Nat.one_mul];omega)
  rw [Nat.add_mul _ 1,Nat.one_mul] at b
  rw [hu, <- Nat.mul_assoc];omega
 have m:u / v*v<=u:=Nat.div_mul_le_self u v
 have j:u / v*(v1*(β*p))<=u / v*v:=by
  apply Nat.mul_le_mul_left
  rw [hv,Nat.add_mul,Nat.mul_assoc];omega
 have e:u / v*v1*(β*p)<(top+1)*(β*p):=by rw [Nat.mul_assoc];omega
 have:=Nat.lt_of_mul_lt_mul_right e
 omega
theorem zsr {β v1 v2 um un u2 p ul vl u v:Nat} (hu:u=((um*β+un)*β+u2)*p+ul) (hv:v=(v1*β+v2)*p+vl) (hv2:v2<β) (hvl:vl<p) (hlt:u<β*v):um<=v1:=by
 rcases uL v1 um with h | h
 . exfalso
   have m:v<(v1+1)*(β*p):=by
    have b:(v1*β+v2+1)*p<=(v1+1)*β*p:=Nat.mul_le_mul_right _ (by rw [Nat.add_mul,Nat.one_mul];omega);rw [Nat.add_mul _ 1,Nat.one_mul] at b;rw [hv, <- Nat.mul_assoc];omega
   have y:(v1+1)*(β*p)<=um*(β*p):=Nat.mul_le_mul_right _ h;have l:β*v<=β*(um*(β*p)):=Nat.mul_le_mul_left _ (by omega)
   have r:β*(um*(β*p))<=u:=by
    have e:β*(um*(β*p))=um*β*β*p:=by simp only [Nat.mul_assoc,uH,Nat.mul_left_comm]
    have j:um*β*β*p<=((um*β+un)*β+u2)*p:=Nat.mul_le_mul_right _ (by rw [Nat.add_mul];omega);rw [e,hu];omega
   omega
 . exact h
theorem zy {ds:List Nat} {k:Nat} (hk:k<ds.length):ds.getD k 0=ds[k]:=by
 rw [List.getD_eq_getElem?_getD,List.getElem?_eq_getElem hk];rfl
theorem xl {ds:List Nat} {k:Nat} (hk:ds.length<=k):ds.getD k 0=0:=by
 rw [List.getD_eq_getElem?_getD,List.getElem?_eq_none hk];rfl
theorem zN (β:Nat) (ds:List Nat) (k:Nat):val β (ds.take (k+1))=val β (ds.take k)+β ^ k*ds.getD k 0:=by
 rcases uL k ds.length with h | h
 . rw [zy h,yV β ds k h]
 . rw [xl h,uJ (by omega),uJ h];simp
theorem zj2 (β:Nat) (ds:List Nat) (k d:Nat) (hk:k<ds.length):val β (ds.set k d)+β ^ k*ds[k]=val β ds+β ^ k*d:=by
 have e:=xX β ds k (by omega)
 have b:=xX β (ds.set k d) k (by simp;omega)
 rw [Yf β ds k hk] at e
 rw [Yf β (ds.set k d) k (by simpa using hk)] at b
 have j:(ds.set k d).take k=ds.take k:=by rw [List.take_set_of_le (by omega)]
 have l:(ds.set k d).drop (k+1)=ds.drop (k+1):=by rw [List.drop_set_of_lt (by omega)]
 rw [j,l] at b
 simp only [List.getElem_set_self] at b
 rw [e,b,Nat.mul_add,Nat.mul_add];omega
theorem zgs {β i D A B c x y:Nat} (h:D+c*β ^ i=A+B):(D+β ^ i*((c+x+y) % β))+(c+x+y) / β*β ^ (i+1)=(A+β ^ i*x)+(B+β ^ i*y):=by
 have b:=Nat.div_add_mod (c+x+y) β
 have e:β ^ i*(c+x+y)=β ^ i*(β*((c+x+y) / β)+(c+x+y) % β):=by rw [b]
 generalize (c+x+y) / β=q at*
 generalize (c+x+y) % β=r at*
 rw [Nat.pow_succ]
 simp only [Nat.mul_add,Nat.add_mul,Nat.mul_assoc,uH,Nat.mul_left_comm] at e h |-
 omega
theorem zpe {β i D A B b x y s b' :Nat} (h:D+B=A+b*β ^ i) (hs:s+y+b=x+b' *β):(D+β ^ i*s)+(B+β ^ i*y)=(A+β ^ i*x)+b' *β ^ (i+1):=by
 have e:β ^ i*(s+y+b)=β ^ i*(x+b' *β):=by rw [hs]
 rw [Nat.pow_succ]
 simp only [Nat.mul_add,Nat.add_mul,Nat.mul_assoc,uH,Nat.mul_left_comm] at e h |-
 omega
theorem zl2 {β P k O O' c x y o Y Z:Nat} (h:O+c*(P*β ^ k)=Z+x*P*Y) (hs:O' +P*β ^ k*o=O+P*β ^ k*((c+x*y+o) % β)):
 O' +(c+x*y+o) / β*(P*β ^ (k+1))=Z+x*P*(Y+β ^ k*y):=by
 have b:=Nat.div_add_mod (c+x*y+o) β
 have e:P*β ^ k*(c+x*y+o)=P*β ^ k*(β*((c+x*y+o) / β)+(c+x*y+o) % β):=by rw [b]
 generalize (c+x*y+o) / β=q at*
 generalize (c+x*y+o) % β=r at*
 rw [Nat.pow_succ]
 simp only [Nat.mul_add,Nat.add_mul,Nat.mul_assoc,uH,Nat.mul_left_comm] at e h hs |-
 omega
theorem zh7 {β c x y o:Nat} (hc:c<β) (hx:x<β) (hy:y<β) (ho:o<β):c+x*y+o<β*β:=by
 have b:x*y<=(β - 1)*(β - 1):=Nat.mul_le_mul (by omega) (by omega)
 obtain ⟨g,rfl⟩:∃ g,β=g+1:=⟨β - 1,by omega⟩
 simp only [Nat.add_sub_cancel] at b
 rw [Nat.add_mul,Nat.mul_add]
 omega
theorem zly {β d x r:Nat} (hd:0<d) (hr:r<d) (hx:x<β):(r*β+x) / d<β/\(r*β+x) % d<d:=by
 refine ⟨(Nat.div_lt_iff_lt_mul hd).2 ?_,Nat.mod_lt _ hd⟩
 have:(r+1)*β<=d*β:=Nat.mul_le_mul_right _ (by omega)
 rw [Nat.add_mul,Nat.one_mul] at this
 rw [uH β d]
 omega
theorem zww {β d x r Q A:Nat} (h:A=Q*d+r):x+β*A=((r*β+x) / d+β*Q)*d+(r*β+x) % d:=by
 have b:=Nat.div_add_mod (r*β+x) d
 have e:(r*β+x) / d*d+(r*β+x) % d=r*β+x:=by rw [uH];exact b
 rw [h,Nat.add_mul]
 simp only [Nat.mul_add,Nat.add_mul,Nat.mul_assoc,uH,Nat.mul_left_comm] at e |-
 omega
theorem XZ (β:Nat) (ds:List Nat) (k d:Nat) (hk:k<ds.length):val β ((ds.set k d).drop k)=d+β*val β (ds.drop (k+1)):=by
 rw [Yf β (ds.set k d) k (by simpa using hk),List.drop_set_of_lt (by omega)]
 simp only [List.getElem_set_self]
theorem zwy {β s i D A x:Nat} {o:Nat} (h:D+β ^ i*o=A*s):(D+β ^ i*(o+x*s % β))+β ^ (i+1)*(x*s / β)=(A+β ^ i*x)*s:=by
 have b:=Nat.div_add_mod (x*s) β
 have e:β ^ i*(x*s)=β ^ i*(β*(x*s / β)+x*s % β):=by rw [b]
 generalize x*s / β=q at*
 generalize x*s % β=r at*
 rw [Nat.pow_succ,Nat.add_mul]
 simp only [Nat.mul_add,Nat.add_mul,Nat.mul_assoc,uH,Nat.mul_left_comm] at e h |-
 omega
theorem zjm {n a b:Nat} (hb:b<2 ^ n):(2 ^ n*a) ||| b=2 ^ n*a+b:=(Nat.two_pow_add_eq_or_of_lt hb a).symm
theorem zbp {n a b:Nat} (hb:b<2 ^ n):b ||| (2 ^ n*a)=b+2 ^ n*a:=by rw [Nat.or_comm,zjm hb,Nat.add_comm]
theorem zkv {s t x:Nat} (hs:0<s):x*s % (s*t)=s*(x % t):=by rw [uH x s,Nat.mul_mod_mul_left]
theorem zqk {s t i A x:Nat} (hs:0<s) (ht:0<t):(A+(s*t) ^ (i+1)*x) / s=A / s+(s*t) ^ i*(t*x):=by
 have e:(s*t) ^ (i+1)*x=s*((s*t) ^ i*(t*x)):=by
  rw [Nat.pow_succ];simp only [Nat.mul_assoc,uH,Nat.mul_left_comm]
 rw [e,Nat.add_mul_div_left _ _ hs]
theorem zol {s t x:Nat} (ht:0<t):t*x=t*(x % s)+s*t*(x / s):=by
 conv=>lhs;rw [<- Nat.mod_add_div x s]
 rw [Nat.mul_add]
 simp only [Nat.mul_assoc,uH,Nat.mul_left_comm]
def chr (d:Nat):UInt8:=UInt8.ofNat (48+d)
def dig (c:UInt8):Nat:=c.toNat - 48
def xp (c:UInt8):Bool:=decide (48<=c.toNat) && decide (c.toNat<=57)
def xu (l:List UInt8):Bool:=l.all xp && !l.isEmpty
def zE (l:List UInt8):Nat:=l.foldl (fun n c=>10*n+dig c) 0
def dec (n:Nat):List UInt8:=if n=0 then [48] else (digs 10 n).reverse.map chr
theorem zw1 {d:Nat} (h:d<10):dig (chr d)=d:=by
 unfold dig chr
 rw [UInt8.toNat_ofNat']
 have:(48+d) % 2 ^ 8=48+d:=Nat.mod_eq_of_lt (by omega)
 omega
theorem zpz {d:Nat} (h:d<10):xp (chr d)=true:=by
 unfold xp chr
 rw [UInt8.toNat_ofNat']
 have:(48+d) % 2 ^ 8=48+d:=Nat.mod_eq_of_lt (by omega)
 simp [this];omega
theorem zhc {c:UInt8} (h:xp c=true):chr (dig c)=c:=by
 simp [xp] at h
 unfold chr dig
 apply UInt8.toNat_inj.1
 rw [UInt8.toNat_ofNat']
 have:c.toNat<2 ^ 8:=UInt8.toNat_lt c
 have:(48+(c.toNat - 48)) % 2 ^ 8=48+(c.toNat - 48):=Nat.mod_eq_of_lt (by omega)
 omega
theorem zu7 {c:UInt8} (h:xp c=true):dig c<10:=by
 simp [xp] at h;unfold dig;omega
theorem zij {d:Nat} (h:d<10):(chr d).toNat=48+d:=by
 unfold chr;rw [UInt8.toNat_ofNat'];exact Nat.mod_eq_of_lt (by omega)
theorem zfs:zE []=0:=rfl
theorem zca (l:List UInt8):∀ n:Nat,l.foldl (fun n c=>10*n+dig c) n=n*10 ^ l.length+zE l:=by
 induction l with
 | nil=>intro n;simp [zE]
 | cons c l ih=>
   intro n
   have e:zE (c :: l)=(10*0+dig c)*10 ^ l.length+zE l:=by
    show List.foldl (fun n c=>10*n+dig c) (10*0+dig c) l=_
    exact ih _
   rw [List.foldl_cons,ih,e,List.length_cons,Nat.pow_succ];simp only [Nat.mul_add,Nat.add_mul,Nat.mul_assoc,uH,Nat.mul_left_comm,Nat.mul_zero,Nat.zero_add]
   omega
theorem X0 (a b:List UInt8):zE (a ++ b)=zE a*10 ^ b.length+zE b:=by
 rw [zE,List.foldl_append,zca b];rfl
theorem zjz (a:List UInt8) (c:UInt8):zE (a ++ [c])=10*zE a+dig c:=by
 rw [X0];simp [zE];omega
theorem zei (c:UInt8) (l:List UInt8):zE (c :: l)=dig c*10 ^ l.length+zE l:=by
 rw [zE,List.foldl_cons,zca];simp
theorem XC (l:List UInt8):zE l=val 10 (l.reverse.map dig):=by
 induction l with
 | nil=>rfl
 | cons c l ih=>rw [zei,List.reverse_cons,List.map_append,Yr,ih];simp [val];rw [uH];omega
theorem Vg {l:List UInt8} (h:l.all xp=true):zE l<10 ^ l.length:=by
 rw [XC]
 have b:zF 10 (l.reverse.map dig):=by
  intro d hd
  simp at hd
  obtain ⟨c,e,rfl⟩:=hd
  exact zu7 (List.all_eq_true.1 h c e)
 simpa using Xg b
theorem zfp (n:Nat):zF 10 (digs 10 n):=(Yx (by omega) n).1.1
theorem zeo (n:Nat):(dec n).all xp=true:=by
 unfold dec
 split
 . rfl
 rw [List.all_eq_true]
 intro c b;simp only [List.mem_map,List.mem_reverse] at b;obtain ⟨d,hd,rfl⟩:=b;exact zpz (zfp n d hd)
theorem zx1 (n:Nat):dec n≠[]:=by
 unfold dec
 split
 . simp
 rename_i h
 rw [ZM (by omega) (by omega)];simp
theorem V8 (n:Nat):xu (dec n)=true:=by
 unfold xu;rw [zeo];simp [zx1]
theorem Z1 (n:Nat):zE (dec n)=n:=by
 unfold dec
 split
 . rename_i h;subst h;decide
 rw [XC, <- List.map_reverse,List.reverse_reverse,List.map_map]
 have e:(digs 10 n).map (dig ∘ chr)=digs 10 n:=by
  have:∀ l:List Nat,zF 10 l->l.map (dig ∘ chr)=l:=by
   intro l
   induction l with
   | nil=>intro _;rfl
   | cons d l ih=>intro h;rw [List.map_cons,ih h.tail];simp [zw1 h.head]
  exact this _ (zfp n)
 rw [e];exact (Yx (by omega) n).2
theorem zkj {m n:Nat} (h:dec m=dec n):m=n:=by rw [<- Z1 m,h,Z1]
theorem vG:dec 0=[48]:=by simp [dec]
theorem ztb (n:Nat) (hn:n≠0):∀ c,(dec n).head?=some c->c≠48:=by
 intro c b
 unfold dec at b
 rw [if_neg hn,List.head?_map,List.head?_reverse] at b
 have j:=Yx (β:=10) (by omega) n
 cases hl:(digs 10 n).getLast? with
 | none=>rw [hl] at b;cases b
 | some d=>
   rw [hl] at b;simp at b;subst b;have l:d<10:=j.1.1 d (List.mem_of_getLast? hl);have m:d≠0:=fun e=>j.1.2 (by rw [hl,e])
   intro e;have:=congrArg UInt8.toNat e;rw [zij l] at this;simp at this
   omega
theorem zna {l:List UInt8} (h:xu l=true) (b:l.head?≠some 48\/l.length=1):dec (zE l)=l:=by
 simp [xu] at h
 obtain ⟨r,z⟩:=h
 have C:zF 10 (l.reverse.map dig):=by
  intro d hd
  simp at hd
  obtain ⟨c,m,rfl⟩:=hd
  exact zu7 (r c m)
 have B:∀ l:List UInt8,(∀ c∈l,xp c=true)->l.map (chr ∘ dig)=l:=by
  intro l
  induction l with
  | nil=>intro _;rfl
  | cons c l ih=>intro h;rw [List.map_cons,ih (fun c m=>h c (List.mem_cons_of_mem _ m))];simp [zhc (h c uP)]
 by_cases u:zE l=0
 rotate_left
 . have m:yZ 10 (l.reverse.map dig):=by
    refine ⟨C,?_⟩;rw [List.getLast?_map,List.getLast?_reverse]
    cases l with
    | nil=>exact absurd rfl z
    | cons c l=>
      simp only [List.head?_cons,Option.map_some];intro e;injection e with e
      have j:=zhc (r c uP);rw [e] at j
      rcases b with b | b
      . apply b;rw [<- j];rfl
      . have:l=[]:=uI (by simpa using b)
        subst this
        apply u
        simp [zE,e]
   unfold dec;rw [if_neg u,XC,m.digs (by omega), <- List.map_reverse,List.reverse_reverse,List.map_map,B l r]
 unfold dec
 rw [if_pos u]
 rcases b with b | b
 . exfalso
   cases l with
   | nil=>exact z rfl
   | cons c l=>
     simp at b;rw [zei] at u;have m:=r c uP
     have y:dig c=0:=by
      rcases uN (dig c) with e | e
      . exact e
      . have:=Nat.mul_pos e (Nat.pow_pos (n:=l.length) (show 0<10 by omega));omega
     have j:=zhc m;rw [y] at j;exact b j.symm
 . match l,b with
   | [c],_=>
     have y:dig c=0:=by simpa [zE] using u
     have j:=zhc (r c uP);rw [y] at j;rw [<- j];rfl
theorem zf5 (n:Nat) (hn:n≠0):(dec n).length=len 10 n:=by unfold dec;rw [if_neg hn];simp [len]
theorem X2 {n k:Nat} (h:n<10 ^ k) (hk:0<k):(dec n).length<=k:=by
 by_cases b:n=0
 . subst b;rw [vG];exact hk
 rw [zf5 n b];exact y8 (by omega) h
theorem ZY {n k:Nat} (h:(dec n).length<=k):n<10 ^ k:=by
 have b:=Vg (zeo n)
 rw [Z1] at b
 exact uK b (Nat.pow_le_pow_right (by omega) h)
theorem ZD {β n:Nat} (hβ:10<=β):len β n<=(dec n).length:=by
 apply y8 (by omega)
 exact uK (ZY (uA)) (Nat.pow_le_pow_left hβ _)
theorem zq5 {n m:Nat} {b:List Nat} (h:b ++ digs 10 m=digs 10 n) (hm:0<m):(b ++ [m % 10]) ++ digs 10 (m / 10)=digs 10 n:=by
 rw [<- h,ZM (by omega) hm];simp
def zI (q:Rat):List UInt8:=(if q.num<0 then [45] else []) ++ dec q.num.natAbs ++ (if q.den=1 then [] else 47 :: dec q.den)
def yG (M:Nat) (q:Rat):Prop:=(dec q.num.natAbs).length<=M/\(dec q.den).length<=M
instance (M:Nat) (q:Rat):Decidable (yG M q):=inferInstanceAs (Decidable (_/\_))
def zi4 (l:List UInt8) (q:Rat):Prop:=l=zI q/\yG 50000 q
def yT (l:List UInt8):Bool:=l.head? == some 45
def zr (l:List UInt8):List UInt8:=if yT l then l.tail else l
def ahead (c:UInt8) (l:List UInt8):List UInt8:=l.takeWhile (· != c)
def ys (c:UInt8) (l:List UInt8):List UInt8:=(l.dropWhile (· != c)).tail
def has (c:UInt8) (l:List UInt8):Bool:=l.contains c
def vh (neg:Bool) (n d:Nat):Rat:=Rat.divInt (if neg then -(n:Int) else n) d
theorem Xy {neg:Bool} {n d:Nat} (hc:Nat.Coprime n d) (hd:d≠0):(vh neg n d).num=(if neg then -(n:Int) else n)/\(vh neg n d).den=d:=by
 have b :Nat.Coprime (if neg then -(n:Int) else n).natAbs d:=by cases neg<;>simpa using hc
 have e:vh neg n d=⟨if neg then -(n:Int) else n,d,hd,b⟩:=by rw [Rat.mk_eq_divInt];rfl
 rw [e];exact ⟨rfl,rfl⟩
theorem XM {l:List UInt8} (h:l.all xp=true) {c:UInt8} (hc:xp c=false):∀ x∈l,(x != c)=true:=by
 intro x e
 have b:=List.all_eq_true.1 h x e
 rw [bne_iff_ne]
 rintro rfl
 rw [b] at hc;cases hc
theorem VP:xp 47=false:=by decide
theorem zke:xp 45=false:=by decide
theorem zaw {l t:List UInt8} {p:UInt8->Bool} (h:∀ x∈l,p x=true):(l ++ t).takeWhile p=l ++ t.takeWhile p:=by
 induction l with
 | nil=>rfl
 | cons c l ih=>simp [List.takeWhile_cons,h c uP,ih (fun x hx=>h x (List.mem_cons_of_mem _ hx))]
theorem zhf {l t:List UInt8} {p:UInt8->Bool} (h:∀ x∈l,p x=true):(l ++ t).dropWhile p=t.dropWhile p:=by
 induction l with
 | nil=>rfl
 | cons c l ih=>simp [List.dropWhile_cons,h c uP,ih (fun x hx=>h x (List.mem_cons_of_mem _ hx))]
theorem zrr {c:UInt8} {l:List UInt8} (h:l.all xp=true) (hc:xp c=false) (t:List UInt8):ahead c (l ++ c :: t)=l:=by
 unfold ahead
 rw [zaw (XM h hc)];simp [List.takeWhile_cons]
theorem zni {c:UInt8} {l:List UInt8} (h:l.all xp=true) (hc:xp c=false) (t:List UInt8):ys c (l ++ c :: t)=t:=by
 unfold ys
 rw [zhf (XM h hc)];simp [List.dropWhile_cons]
theorem zvv (c:UInt8) (l t:List UInt8):has c (l ++ c :: t)=true:=by unfold has;simp
theorem V5 {c:UInt8} {l:List UInt8} (h:has c l=false):ahead c l=l:=by
 unfold has at h;unfold ahead
 have e :c ∉ l:=by simpa using h
 have:=zaw (l:=l) (t:=[]) (p:=(· != c)) (by
  intro a b
  rw [bne_iff_ne]
  rintro rfl
  exact e b)
 simpa using this
theorem zoc {c:UInt8} {l:List UInt8} (h:l.all xp=true) (hc:xp c=false):has c l=false:=by
 unfold has
 rw [Bool.eq_false_iff]
 intro b
 have e:=List.contains_iff_mem.1 b
 have:=List.all_eq_true.1 h c e
 rw [this] at hc;cases hc
theorem zsc {c:UInt8} {l:List UInt8} (h:has c l=true):l=ahead c l ++ c :: ys c l:=by
 unfold has at h;unfold ahead ys
 have b:c∈l:=List.contains_iff_mem.1 h
 have e:(l.dropWhile (· != c)).head?=some c:=by
  cases hd:l.dropWhile (· != c) with
  | nil=>
    have j:=List.takeWhile_append_dropWhile (p:=(· != c)) (l:=l);rw [hd,List.append_nil] at j;rw [<- j] at b;have:=List.all_eq_true.1 (List.all_takeWhile (p:=(· != c)) (l:=l)) c b;simp at this
  | cons a t=>
    have:=List.head?_dropWhile_not (· != c) l;rw [hd] at this;simp at this;rw [this];rfl
 cases hd:l.dropWhile (· != c) with
 | nil=>rw [hd] at e;cases e
 | cons a t=>
   rw [hd] at e;injection e with e
   subst e;have:=List.takeWhile_append_dropWhile (p:=(· != a)) (l:=l);rw [hd] at this;exact this.symm
theorem YQ {l:List UInt8} (h:yT l=false):zr l=l:=by unfold zr;rw [h];rfl
theorem Vr {l:List UInt8} (h:yT l=true):l=45 :: zr l:=by
 unfold zr;rw [h]
 unfold yT at h
 cases l with
 | nil=>simp at h
 | cons c l=>simp at h;subst h;rfl
theorem zws (l:List UInt8):l=(if yT l then [45] else []) ++ zr l:=by
 by_cases h:yT l=true
 . rw [if_pos h];exact Vr h
 rw [if_neg h,YQ (by simpa using h)];rfl
theorem zhn {l t:List UInt8} (h:xu l=true):yT (l ++ t)=false:=by
 simp [xu] at h
 unfold yT
 cases l with
 | nil=>simp at h
 | cons c l=>
   have b:=h.1 c uP
   simp
   rintro rfl
   simp [zke] at b
theorem zhk {l:List UInt8} {q:Rat} (h:l=zI q):yT l=decide (q.num<0)/\ahead 47 (zr l)=dec q.num.natAbs/\has 47 (zr l)=decide (q.den≠1)/\
 (q.den≠1->ys 47 (zr l)=dec q.den):=by
 have m:yT (dec q.num.natAbs ++ (if q.den=1 then [] else 47 :: dec q.den))=false:=zhn (V8 _)
 have e:yT l=decide (q.num<0):=by
  rw [h,zI,List.append_assoc]
  by_cases b:q.num<0
  . rw [if_pos b];simp [yT,b]
  rw [if_neg b,List.nil_append,m];simp [b]
 have hu:zr l=dec q.num.natAbs ++ (if q.den=1 then [] else 47 :: dec q.den):=by
  by_cases b:q.num<0
  rotate_left
  . rw [YQ (by rw [e];simpa using b),h,zI,if_neg b,List.nil_append]
  have:=Vr (l:=l) (by rw [e];simpa using b)
  rw [h,zI,if_pos b] at this;simp only [List.cons_append,List.nil_append,List.cons.injEq,true_and] at this;rw [h,zI,if_pos b];simp only [List.cons_append,List.nil_append];rw [<- this]
 refine ⟨e,?_⟩
 rw [hu]
 by_cases hd:q.den=1
 . rw [if_pos hd,List.append_nil]
   have j:=zoc (zeo q.num.natAbs) VP;refine ⟨V5 j,?_,fun h=>absurd hd h⟩;rw [j];simp [hd]
 rw [if_neg hd]
 exact ⟨zrr (zeo _) VP _,by rw [zvv];simp [hd],fun _=>zni (zeo _) VP _⟩
def yj (l:List UInt8):Bool:=xu l && (l.head? != some 48 || l.length == 1) && decide (l.length<=50000)
theorem ziw {n:Nat} (h:(dec n).length<=50000):yj (dec n)=true:=by
 unfold yj
 rw [V8]
 by_cases b:n=0
 . subst b;rw [vG];decide
 have e:((dec n).head? != some 48)=true:=by
  rw [bne_iff_ne];intro j;exact ztb n b 48 j rfl
 rw [e];simp [h]
theorem Yp {l:List UInt8} (h:yj l=true):dec (zE l)=l/\l.length<=50000/\xu l=true:=by
 unfold yj at h
 simp only [Bool.and_eq_true,Bool.or_eq_true,bne_iff_ne,ne_eq,beq_iff_eq,decide_eq_true_eq] at h
 exact ⟨zna h.1.1 h.1.2,h.2,h.1.1⟩
theorem zao {l:List UInt8} (hn:yj (ahead 47 (zr l))=true) (h0:yT l=true->ahead 47 (zr l)≠[48])
 (hd:has 47 (zr l)=true->yj (ys 47 (zr l))=true/\ys 47 (zr l)≠[48]/\ys 47 (zr l)≠[49]/\
   Nat.Coprime (zE (ahead 47 (zr l))) (zE (ys 47 (zr l)))):
 zi4 l (vh (yT l) (zE (ahead 47 (zr l))) (if has 47 (zr l) then zE (ys 47 (zr l)) else 1)):=by
 obtain ⟨e,C,_⟩:=Yp hn
 have z:=zws l
 generalize O:yT l=s at*
 generalize hu:zr l=u at*
 have D:s=true->zE (ahead 47 u)≠0:=by
  intro F h
  rw [h,vG] at e
  exact h0 F e.symm
 by_cases y:has 47 u=true
 rotate_left
 . rw [if_neg y]
   have L :has 47 u=false:=by simpa using y
   have B:=V5 L;obtain ⟨r,m⟩:=Xy (neg:=s) (n:=zE (ahead 47 u)) (d:=1) (by simp) (by omega);have j:(vh s (zE (ahead 47 u)) 1).num.natAbs=zE (ahead 47 u):=by rw [r];cases s<;>simp
   refine ⟨?_,by
    unfold yG;rw [m,j,e]
    exact ⟨C,by simp [dec,ZM (β:=10) (n:=1) (by omega) (by omega),Z4]⟩⟩
   unfold zI;rw [m,j,e,r,z,if_pos rfl,List.append_nil,B]
   congr 1
   cases s with
   | false=>rw [if_neg (by simp),if_neg (by simp)]
   | true=>rw [if_pos rfl,if_pos rfl,if_pos (by have:=D rfl;rw [B] at this;omega)]
 obtain ⟨K,E,G,N⟩:=hd y
 obtain ⟨b,M,_⟩:=Yp K
 have J:zE (ys 47 u)≠0:=by
  intro h;rw [h,vG] at b;exact E b.symm
 have I:zE (ys 47 u)≠1:=by
  intro h;rw [h] at b;exact G (by rw [<- b];simp [dec,ZM (β:=10) (n:=1) (by omega) (by omega),Z4];decide)
 rw [if_pos y];obtain ⟨r,m⟩:=Xy (neg:=s) N J;have j:(vh s (zE (ahead 47 u)) (zE (ys 47 u))).num.natAbs=zE (ahead 47 u):=by rw [r];cases s<;>simp
 refine ⟨?_,by unfold yG;rw [m,j,e,b];exact ⟨C,M⟩⟩;unfold zI;rw [m,j,e,b,if_neg I,r,z];rw [List.append_assoc]
 congr 1
 rotate_left
 . exact zsc y
 cases s with
 | false=>rw [if_neg (by simp),if_neg (by simp)]
 | true=>rw [if_pos rfl,if_pos rfl,if_pos (by have:=D rfl;omega)]
theorem zgl:dec 1=[49]:=by simp [dec,ZM (β:=10) (n:=1) (by omega) (by omega),Z4];decide
theorem Z9 {l:List UInt8} {q:Rat} (h:zi4 l q):
 yj (ahead 47 (zr l))=true/\(yT l=true->ahead 47 (zr l)≠[48])/\
 (has 47 (zr l)=true->yj (ys 47 (zr l))=true/\ys 47 (zr l)≠[48]/\ys 47 (zr l)≠[49]/\
   ahead 47 (zr l)≠[48]/\Nat.Coprime (zE (ahead 47 (zr l))) (zE (ys 47 (zr l))))/\
 q=vh (yT l) (zE (ahead 47 (zr l))) (if has 47 (zr l) then zE (ys 47 (zr l)) else 1):=by
 obtain ⟨z,j,B,u⟩:=zhk h.1
 have r:=h.2
 have C:dec q.num.natAbs=[48]->q.num=0:=by
  intro e
  have:q.num.natAbs=0:=zkj (e.trans vG.symm)
  omega
 have y:q.num=if decide (q.num<0)=true then -(q.num.natAbs:Int) else q.num.natAbs:=by
  by_cases b:q.num<0
  . simp [b];omega
  simp [b];omega
 refine ⟨by rw [j];exact ziw r.1,?_,?_,?_⟩
 . rw [z,j]
   intro b e;have:=C e;simp at b
   omega
 . rw [B]
   intro hd;have m :q.den≠1:=by simpa using hd
   rw [j,u m,Z1,Z1];refine ⟨ziw r.2,?_,?_,?_,q.reduced⟩
   . intro e;exact q.den_nz (zkj (e.trans vG.symm))
   . intro e;exact m (zkj (e.trans zgl.symm))
   . intro e
     have b:=C e;have:=q.reduced;rw [b] at this;simp at this;exact m this
 . rw [z,j,B,Z1]
   by_cases hd:q.den=1
   rotate_left
   . have:decide (q.den≠1)=true:=by simp [hd]
     rw [this,if_pos rfl,u hd,Z1,vh, <- y,Rat.num_divInt_den]
   have:decide (q.den≠1)=false:=by simp [hd]
   rw [this,if_neg (by simp),vh, <- y]
   conv=>lhs;rw [<- Rat.num_divInt_den q,hd]
def zl (l:List UInt8):Option Rat:=
 let q:=vh (yT l) (zE (ahead 47 (zr l))) (if has 47 (zr l) then zE (ys 47 (zr l)) else 1)
 if l=zI q/\yG 50000 q then some q else none
theorem yN {l:List UInt8} {q:Rat}:zl l=some q↔zi4 l q:=by
 unfold zl
 constructor
 rotate_left
 . intro h
   have e:=(Z9 h).2.2.2
   simp only
   rw [<- e];exact if_pos h
 intro h
 simp only at h;generalize vh (yT l) (zE (ahead 47 (zr l))) (if has 47 (zr l) then zE (ys 47 (zr l)) else 1)=r at h
 split at h
 . rename_i b;injection h with h;subst h;exact b
 cases h
theorem Ze {l:List UInt8}:zl l=none↔∀ q,¬ zi4 l q:=by
 constructor
 . intro h q b;rw [yN.2 b] at h;cases h
 intro h
 cases hr:zl l with
 | none=>rfl
 | some q=>exact absurd (yN.1 hr) (h q)
theorem Yj {q:Rat} (h:yG 50000 q):zl (zI q)=some q:=yN.2 ⟨rfl,h⟩
theorem zte {l:List UInt8} (h:yj (ahead 47 (zr l))=false):zl l=none:=by
 rw [Ze]
 intro q b
 have:=(Z9 b).1
 rw [h] at this;cases this
theorem zt7 {l:List UInt8} (h:yT l=true) (h0:ahead 47 (zr l)=[48]):zl l=none:=by
 rw [Ze]
 intro q b
 exact (Z9 b).2.1 h h0
theorem ZO {l:List UInt8} (h:has 47 (zr l)=true) (b:yj (ys 47 (zr l))=false\/ys 47 (zr l)=[48]\/ys 47 (zr l)=[49]\/ahead 47 (zr l)=[48]):zl l=none:=by
 rw [Ze]
 intro q j
 obtain ⟨e,m,u,r,_⟩:=(Z9 j).2.2.1 h
 rcases b with b | b | b | b
 . rw [b] at e;cases e
 . exact m b
 . exact u b
 . exact r b
theorem Xp (s:Bool) (n:Nat):(vh s n 1).num=(if s then -(n:Int) else n)/\(vh s n 1).den=1:=Xy (by simp) (by omega)
theorem zbd {l:List UInt8} (h:yj (ahead 47 (zr l))=true) (h0:yT l=true->ahead 47 (zr l)≠[48]) (hh:has 47 (zr l)=false):zl l=some (vh (yT l) (zE (ahead 47 (zr l))) 1):=by
 rw [yN]
 have:=zao h h0 (by rw [hh];intro h;cases h)
 rw [hh] at this
 simpa using this
theorem zfe {s:Bool} {n d:Nat} (hd:d≠0) (h:(vh s n d).den=d):Nat.Coprime n d:=by
 unfold vh at h
 rw [Rat.den_divInt,if_neg (by omega)] at h
 have u:(d:Int).gcd (if s then -(n:Int) else n)=Nat.gcd n d:=by
  cases s<;>simp [Int.gcd,Nat.gcd_comm]
 rw [u] at h
 have l:0<Nat.gcd n d:=Nat.gcd_pos_of_pos_right _ (by omega)
 have e:Nat.gcd n d ∣ d:=Nat.gcd_dvd_right n d
 obtain ⟨k,b⟩:=e
 have r:d / Nat.gcd n d=k:=by
  conv=>lhs;lhs;rw [b]
  exact Nat.mul_div_cancel_left _ l
 have j:(d:Int).natAbs=d:=Int.natAbs_natCast d
 rw [j,r] at h
 have m:Nat.gcd n d*d=1*d:=by rw [Nat.one_mul];conv=>lhs;rhs;rw [<- h]
                              exact b.symm
 exact Nat.eq_of_mul_eq_mul_right (by omega) m
theorem zjh {l:List UInt8} (h:yj (ahead 47 (zr l))=true) (h0:yT l=true->ahead 47 (zr l)≠[48]) (hh:has 47 (zr l)=true)
 (h1:yj (ys 47 (zr l))=true) (h2:ys 47 (zr l)≠[48]) (h3:ys 47 (zr l)≠[49]):
 zl l=if (vh (yT l) (zE (ahead 47 (zr l))) (zE (ys 47 (zr l)))).den=zE (ys 47 (zr l)) then some (vh (yT l) (zE (ahead 47 (zr l))) (zE (ys 47 (zr l)))) else none:=by
 have b:zE (ys 47 (zr l))≠0:=by
  intro e
  have:=(Yp h1).1
  rw [e,vG] at this
  exact h2 this.symm
 split
 . rename_i hd
   rw [yN];have:=zao h h0 (fun _=>⟨h1,h2,h3,zfe b hd⟩);rw [hh] at this
   simpa using this
 rename_i hd
 rw [Ze];intro q j
 apply hd
 exact (Xy ((Z9 j).2.2.1 hh).2.2.2.2 b).2
theorem zak {l:List UInt8} (h1:yj l=true) (h2:l≠[48]):zE l≠0:=by
 intro e
 have:=(Yp h1).1
 rw [e,vG] at this
 exact h2 this.symm
theorem za4 {l:List UInt8} (h:yj l=true):len 4294967296 (zE l)<=50000:=by
 obtain ⟨b,j,m⟩:=Yp h
 have e:=ZD (β:=4294967296) (n:=zE l) (by omega)
 rw [b] at e
 omega
theorem Y8 {l:List UInt8} (h:yj l=true):l.all xp=true/\l.length<=50000:=by
 obtain ⟨j,e,b⟩:=Yp h
 unfold xu at b
 rw [Bool.and_eq_true] at b
 exact ⟨b.1,e⟩
theorem yG.len {M:Nat} {q:Rat} (h:yG M q):Go.Proofs.YtnjljgidphemdaaGreatDoor.len 4294967296 q.num.natAbs<=M/\Go.Proofs.YtnjljgidphemdaaGreatDoor.len 4294967296 (q.den:Int).natAbs<=M:=
 ⟨uC (ZD (by omega)) h.1,by rw [Int.natAbs_natCast];exact uC (ZD (by omega)) h.2⟩
structure yE where
 den:Int
 cell:Nat->Nat->Int
 basic:Nat->Nat
 other:Nat->Nat
def yE.bare (T:yE) (r c:Nat):Nat->Nat->Int:=fun i k=>
 if i=r then (if k=c then T.den else -(T.cell r k)) else if k=c then T.cell i c else (T.cell i k*T.cell r c - T.cell i c*T.cell r k).tdiv T.den
def yE.pivot (T:yE) (r c:Nat):yE:=
 { den:=if T.cell r c<0 then -(T.cell r c) else T.cell r c,
      cell:=fun i k=>if T.cell r c<0 then -(T.bare r c i k) else T.bare r c i k,
      basic:=fun i=>if i=r then T.other (c - 1) else T.basic i,
      other:=fun k=>if k=c - 1 then T.basic r else T.other k }
def yE.enter (T:yE) (m:Nat) (but:Int):Nat->Nat
 | 0=>0
 | n+1=>if (T.other n:Int)≠but/\0<T.cell m (n+1)/\(T.enter m but n=0\/T.other n<T.other (T.enter m but n - 1)) then n+1 else T.enter m but n
def yE.ahead (T:yE) (room c i j:Nat):Prop:=
 T.cell i 0* -(T.cell j c)<T.cell j 0* -(T.cell i c)\/(T.cell i 0* -(T.cell j c)=T.cell j 0* -(T.cell i c)/\(T.basic i=room\/(T.basic j≠room/\T.basic i<T.basic j)))
instance (T:yE) (room c i j:Nat):Decidable (T.ahead room c i j):=by unfold yE.ahead;exact inferInstance
def yE.leave (T:yE) (room c:Nat):Nat->Option Nat
 | 0=>none
 | n+1=>if T.cell n c ≥ 0 then T.leave room c n else match T.leave room c n with
   | none=>some n
   | some j=>if T.ahead room c n j then some n else some j
def Fit (z:Int):Prop:=len 4294967296 z.natAbs<=8388608
structure yE.Fits (T:yE) (m L:Nat):Prop where
 den:0<T.den
 fden:Fit T.den
 cell:∀ i k,i<=m->k<L->Fit (T.cell i k)
theorem yE.enter_le (T:yE) (m:Nat) (but:Int) (n:Nat):T.enter m but n<=n:=by
 induction n with
 | zero=>exact Nat.le_refl 0
 | succ n ih=>
   unfold yE.enter
   split
   . exact uA
   omega
theorem yE.leave_lt (T:yE) (room c:Nat):∀ (n j:Nat),T.leave room c n=some j->j<n/\T.cell j c<0
 | 0,j,h=>by cases h
 | n+1,j,h=>by
   unfold yE.leave at h
   split at h
   . have:=yE.leave_lt T room c n j h;exact ⟨by omega,this.2⟩
   rename_i l
   split at h
   . injection h with h;subst h;exact ⟨by omega,by omega⟩
   rename_i e b
   split at h
   . injection h with h;subst h;exact ⟨by omega,by omega⟩
   injection h with h;subst h
   have:=yE.leave_lt T room c n e b;exact ⟨by omega,this.2⟩
def vals (β:Int):List Int->Int
 | []=>0
 | d :: ds=>d+β*vals β ds
theorem zed (β:Int) (a b:List Int):vals β (a ++ b)=vals β a+β ^ a.length*vals β b:=by
 induction a with
 | nil=>simp [vals]
 | cons d a ih=>simp only [List.cons_append,vals,ih,List.length_cons,Int.pow_succ];rw [Int.mul_add,Int.mul_comm (β ^ a.length) β,Int.mul_assoc];omega
theorem zem (β:Nat) (ds:List Nat):vals β (ds.map fun (d:Nat)=>(d:Int))=(val β ds:Int):=by
 induction ds with
 | nil=>rfl
 | cons d ds ih=>simp only [List.map_cons,vals,val,ih];push_cast;rfl
theorem zl6 (β:Int) (zs:List Int) (k:Nat) (d:Int) (hk:k<zs.length):vals β (zs.set k d)=vals β zs+β ^ k*(d - zs[k]):=by
 induction zs generalizing k with
 | nil=>simp at hk
 | cons z zs ih=>
   cases k with
   | zero=>simp [vals];omega
   | succ k=>
     simp only [List.set_cons_succ,vals,List.getElem_cons_succ];rw [ih k (by simpa using hk),Int.mul_add,Int.pow_succ, <- Int.mul_assoc,Int.mul_comm β (β ^ k)]
     omega
def Fits (lo hi:Int) (zs:List Int):Prop:=∀ z∈zs,lo<=z/\z<hi
theorem Fits.get {lo hi:Int} {zs:List Int} (h:Fits lo hi zs) {k:Nat} (hk:k<zs.length):lo<=zs[k]/\zs[k]<hi:=h _ (uO hk)
theorem zwq {β:Int} (hβ:0<β) {zs:List Int} (h:Fits 0 β zs):0<=vals β zs/\vals β zs<β ^ zs.length:=by
 induction zs with
 | nil=>simp [vals]
 | cons z zs ih=>
   obtain ⟨m,j⟩:=h z uP;obtain ⟨e,l⟩:=ih (fun x hx=>h x (List.mem_cons_of_mem _ hx));simp only [vals,List.length_cons,Int.pow_succ];have r:=Int.mul_nonneg (Int.le_of_lt hβ) e;have b:β*(vals β zs+1)<=β*β ^ zs.length:=Int.mul_le_mul_of_nonneg_left (by omega) (Int.le_of_lt hβ);rw [Int.mul_add,Int.mul_one] at b;rw [Int.mul_comm (β ^ zs.length)]
   omega
theorem zuh {β:Nat} {zs:List Int} (h:Fits 0 β zs):∃ ds:List Nat,zs=(ds.map fun (d:Nat)=>(d:Int))/\zF β ds/\ds.length=zs.length:=by
 refine ⟨zs.map Int.toNat,?_,?_,by simp⟩
 rotate_left
 . intro d hd
   obtain ⟨z,b,rfl⟩:=List.mem_map.1 hd;have:=h z b
   omega
 rw [List.map_map]
 conv=>lhs;rw [<- List.map_id zs]
 apply List.map_congr_left
 intro z b;have:=(h z b).1
 simp;omega
def vY (da db:List Nat) (k:Nat):List Int:=(List.range da.length).map fun j=>if j<k then (da.getD j 0:Int) - db.getD j 0 else da.getD j 0
theorem vO (da db:List Nat) (k:Nat):(vY da db k).length=da.length:=by simp [vY]
theorem Y1 (da db:List Nat) (k j:Nat) (hj:j<da.length):(vY da db k)[j]'(by rw [vO];exact hj)=if j<k then (da.getD j 0:Int) - db.getD j 0 else da.getD j 0:=by simp [vY]
theorem zje (da db:List Nat):vY da db 0=da.map fun (d:Nat)=>(d:Int):=by
 apply List.ext_getElem
 . simp [vY]
 intro j e b
 rw [Y1 _ _ _ _ (by simpa using b)];simp at b
 simp [b]
theorem zk0 (da db:List Nat) (k:Nat) (hk:k<da.length):(vY da db k).set k ((da.getD k 0:Int) - db.getD k 0)=vY da db (k+1):=by
 apply List.ext_getElem
 . simp [vY]
 intro j l b
 rw [vO] at b;rw [Y1 _ _ _ _ b,List.getElem_set]
 by_cases h:k=j
 . subst h;simp
 rw [if_neg h,Y1 _ _ _ _ b]
 by_cases e:j<k
 . rw [if_pos e,if_pos (by omega)]
 rw [if_neg e,if_neg (by omega)]
theorem zjp (β:Int) (f g:Nat->Int):∀ l:List Nat,vals β (l.map fun j=>f j - g j)=vals β (l.map f) - vals β (l.map g):=by
 intro l
 induction l with
 | nil=>rfl
 | cons x l ih=>simp only [List.map_cons,vals,ih];rw [Int.mul_sub];omega
theorem zok (da:List Nat):((List.range da.length).map fun j=>((da.getD j 0:Nat):Int))=da.map fun (d:Nat)=>(d:Int):=by
 apply List.ext_getElem
 . simp
 intro j b e
 simp at b
 simp [b]
theorem znf (β:Int):∀ n,vals β (List.replicate n 0)=0:=by
 intro n
 induction n with
 | zero=>rfl
 | succ n ih=>rw [List.replicate_succ,vals,ih];simp
theorem zn7 (β:Nat) (b:List Nat) (n:Nat) (h:b.length<=n):vals β ((List.range n).map fun j=>((b.getD j 0:Nat):Int))=val β b:=by
 obtain ⟨m,rfl⟩:∃ m,n=b.length+m:=⟨n - b.length,by omega⟩
 have e:((List.range (b.length+m)).map fun j=>((b.getD j 0:Nat):Int))=(b.map fun (d:Nat)=>(d:Int)) ++ List.replicate m 0:=by
  apply List.ext_getElem
  . simp
  intro j r u
  simp at r;rw [List.getElem_append]
  by_cases l:j<b.length
  . simp [l]
  simp [l]
 rw [e,zed,znf,zem];simp
theorem zhw (β:Nat) (da db:List Nat) (h:db.length<=da.length):vals β (vY da db db.length)=(val β da:Int) - val β db:=by
 have e:vY da db db.length=(List.range da.length).map fun j=>((da.getD j 0:Nat):Int) - ((db.getD j 0:Nat):Int):=by
  unfold vY
  apply List.map_congr_left
  intro j _
  by_cases b:j<db.length
  . rw [if_pos b]
  rw [if_neg b,xl (ds:=db) (by omega)];simp
 rw [e,zjp,zok,zem,zn7 _ _ _ h]
theorem zhv {β:Nat} {da db:List Nat} (hβ:0<β) (ha:zF β da) (hb:zF β db) (k:Nat):Fits (-(β:Int)) β (vY da db k):=by
 intro z b
 obtain ⟨j,e,rfl⟩:=List.mem_map.1 b
 have m:=ha.getD hβ j
 have l:=hb.getD hβ j
 split<;>omega
def YI (β:Int) (zs:List Int) (k:Nat) (V:Int):Prop:=
 vals β zs=V/\Fits 0 β (zs.take k)/\(∀ h:k<zs.length,-β<=zs[k]/\zs[k]<β)/\∀ j (h:j<zs.length),k<j-> -β<zs[j]/\zs[j]<β
theorem YI.start {β:Nat} {da db:List Nat} (hβ:0<β) (ha:zF β da) (hb:zF β db) (h:db.length<=da.length):YI β (vY da db db.length) 0 ((val β da:Int) - val β db):=by
 refine ⟨zhw β da db h,by intro z b;simp at b,fun h0=>(zhv hβ ha hb _).get h0,fun j hj _=>?_⟩
 rw [vO] at hj
 rw [Y1 _ _ _ _ hj]
 have e:=ha.getD hβ j
 have l:=hb.getD hβ j
 split<;>omega
theorem zil {lo hi:Int} {zs:List Int} {k:Nat} (hk:k<zs.length) (h:Fits lo hi (zs.take k)) (h1:lo<=zs[k]) (h2:zs[k]<hi):Fits lo hi (zs.take (k+1)):=by
 intro z e
 rw [Ve _ _ hk] at e
 rcases List.mem_append.1 e with b | b
 . exact h z b
 . simp at b;subst b;exact ⟨h1,h2⟩
theorem YI.keep {β:Int} {zs:List Int} {k:Nat} {V:Int} (h:YI β zs k V) (hk:k<zs.length) (h0:0<=zs[k]):YI β zs (k+1) V:=by
 obtain ⟨e,l,m,b⟩:=h
 refine ⟨e,zil hk l h0 (m hk).2,fun hk' =>?_,fun j hj hlt=>b j hj (by omega)⟩
 have:=b (k+1) hk' (by omega)
 omega
theorem YI.more {β:Int} (hβ:0<β) {zs:List Int} {k:Nat} {V:Int} (h:YI β zs k V) (hV:0<=V) (hk:k<zs.length) (h0:zs[k]<0):k+1<zs.length:=by
 rcases uL (k+1) zs.length with b | b
 . exact b
 . exfalso
   obtain ⟨m,l,z,u⟩:=h;have e:zs=zs.take k ++ [zs[k]]:=by rw [<- Ve _ _ hk,uJ b]
   have j:=zed β (zs.take k) [zs[k]];rw [<- e,m] at j;simp only [vals,Int.mul_zero,Int.add_zero] at j;have y:=(zwq hβ l).2;have r:β ^ (zs.take k).length*zs[k]<=β ^ (zs.take k).length*(-1):=Int.mul_le_mul_of_nonneg_left (by omega) (Int.le_of_lt (Int.pow_pos hβ))
   omega
theorem YI.back {β:Int} (hβ:0<β) {zs:List Int} {k:Nat} {V:Int} (h:YI β zs k V) (hk:k+1<zs.length) (h0:zs[k]<0):
 YI β ((zs.set k (zs[k]+β)).set (k+1) (zs[k+1] - 1)) (k+1) V:=by
 obtain ⟨r,m,u,e⟩:=h
 have hb:=u (by omega)
 have B:=e (k+1) hk (by omega)
 refine ⟨?_,?_,?_,?_⟩
 . rw [zl6 _ _ _ _ (by simpa using hk),zl6 _ _ _ _ (by omega),List.getElem_set_ne (by omega),r,Int.pow_succ]
   have l:zs[k]+β - zs[k]=β:=by omega
   have y:zs[k+1] - 1 - zs[k+1]= -1:=by omega
   rw [l,y]
   omega
 . rw [List.take_set_of_le (by omega)]
   apply zil (by simpa using (by omega:k<zs.length))
   . rw [List.take_set_of_le (by omega)];exact m
   . rw [List.getElem_set_self];omega
   . rw [List.getElem_set_self];omega
 . intro C
   rw [List.getElem_set_self]
   omega
 . intro j b z
   simp at b;rw [List.getElem_set_ne (by omega),List.getElem_set_ne (by omega)];exact e j b (by omega)
theorem YI.done {β:Nat} {zs:List Int} {k:Nat} {V:Nat} (h:YI β zs k (V:Int)) (hk:zs.length<=k):∃ ds:List Nat,zs=(ds.map fun (d:Nat)=>(d:Int))/\zF β ds/\ds.length=zs.length/\val β ds=V:=by
 obtain ⟨e,b,_,_⟩:=h
 rw [uJ hk] at b
 obtain ⟨ds,rfl,l,j⟩:=zuh b
 refine ⟨ds,rfl,l,j,?_⟩
 rw [zem] at e
 omega
def vk (l:List UInt8):List UInt8:=if has 47 (zr l) then ys 47 (zr l) else [49]
theorem zjv {q:Rat} (h:yG 50000 q):(zI q).length<=100002:=by
 obtain ⟨b,j⟩:=h
 unfold zI
 rw [List.length_append,List.length_append]
 have l:(if q.num<0 then ([45]:List UInt8) else []).length<=1:=by split<;>simp
 have e:(if q.den=1 then ([]:List UInt8) else 47 :: dec q.den).length<=50001:=by split<;>simp;omega
 omega
theorem zqh {l:List UInt8} (h:100002<l.length):zl l=none:=by
 rw [Ze]
 rintro q ⟨rfl,b⟩
 have:=zjv b
 omega
theorem znj {l:List UInt8} {q:Rat} (h:zi4 l q):ahead 47 (zr l)=dec q.num.natAbs/\vk l=dec q.den:=by
 obtain ⟨m,b,j,e⟩:=zhk h.1
 refine ⟨b,?_⟩
 unfold vk
 rw [j]
 by_cases hd:q.den=1
 . rw [hd,zgl];simp
 rw [if_pos (by simpa using hd),e hd]
theorem Xa {l:List UInt8} (h:xu (ahead 47 (zr l))=false\/xu (vk l)=false\/50000<(ahead 47 (zr l)).length\/50000<(vk l).length\/zE (vk l)=0):zl l=none:=by
 rw [Ze]
 intro q b
 obtain ⟨j,e⟩:=znj b
 rw [j,e] at h
 obtain ⟨_,r,m⟩:=b
 rcases h with h | h | h | h | h
 . rw [V8] at h;cases h
 . rw [V8] at h;cases h
 . omega
 . omega
 . rw [Z1] at h;exact q.den_nz h
theorem zue (l:List UInt8):(if has 47 (zr l) then zE (ys 47 (zr l)) else 1)=zE (vk l):=by
 unfold vk
 split
 . rfl
 rfl
theorem zpx {l:List UInt8} (h1:xu (ahead 47 (zr l))=true) (h2:xu (vk l)=true) (h3:(ahead 47 (zr l)).length<=50000) (h4:(vk l).length<=50000):
 zl l=if zI (vh (yT l) (zE (ahead 47 (zr l))) (zE (vk l)))=l then some (vh (yT l) (zE (ahead 47 (zr l))) (zE (vk l))) else none:=by
 unfold zl
 rw [zue]
 simp only
 generalize u:vh (yT l) (zE (ahead 47 (zr l))) (zE (vk l))=q
 by_cases b:zI q=l
 rotate_left
 . rw [if_neg b,if_neg (fun h=>b h.1.symm)]
 rw [if_pos b]
 have m:yG 50000 q:=by
  obtain ⟨y,r,e,j⟩:=zhk b.symm
  constructor
  . rw [<- r];exact h3
  by_cases hd:q.den=1
  . rw [hd,zgl];decide
  rw [<- j hd]
  unfold vk at h4;rw [e,if_pos (by simpa using hd)] at h4;exact h4
 rw [if_pos ⟨b.symm,m⟩]
def zjx (b:Bool) (n:Nat):Int:=if b then -(n:Int) else n
theorem Vw (b:Bool) (n d:Nat):vh b n d=Rat.divInt (zjx b n) d:=rfl
theorem zda (x:Rat):x.num=zjx (decide (x.num<0)) x.num.natAbs:=by
 unfold zjx
 by_cases h:x.num<0
 . rw [uE h,if_pos rfl];omega
 rw [uF h,if_neg (by decide)];omega
theorem YM (x:Rat):Rat.divInt x.num x.den=x:=Rat.num_divInt_den x
theorem zst (a b:Bool) (n m:Nat):zjx a n*zjx b m=zjx (a != b) (n*m):=by
 unfold zjx
 cases a<;>cases b<;>simp [Int.neg_mul,Int.mul_neg]
theorem zwt (x y:Rat):x*y=vh (decide (x.num<0) != decide (y.num<0)) (x.num.natAbs*y.num.natAbs) (x.den*y.den):=by
 rw [Vw, <- zst, <- zda, <- zda,Int.natCast_mul, <- Rat.divInt_mul_divInt,YM,YM]
theorem zkz (x y:Rat):x+y=Rat.divInt (zjx (decide (x.num<0)) (x.num.natAbs*y.den)+zjx (decide (y.num<0)) (y.num.natAbs*x.den)) ((x.den*y.den:Nat):Int):=by
 have e:zjx (decide (x.num<0)) (x.num.natAbs*y.den)=x.num*y.den:=by
  conv=>rhs;rw [zda x]
  unfold zjx;split<;>simp [Int.neg_mul]
 have b:zjx (decide (y.num<0)) (y.num.natAbs*x.den)=y.num*x.den:=by
  conv=>rhs;rw [zda y]
  unfold zjx;split<;>simp [Int.neg_mul]
 rw [e,b]
 conv=>lhs;rw [<- YM x, <- YM y]
 rw [Rat.divInt_add_divInt _ _ (by have:=x.den_nz;omega) (by have:=y.den_nz;omega),Int.natCast_mul]
theorem zjs {x y:Rat} (h:decide (x.num<0)=decide (y.num<0)):x+y=vh (decide (x.num<0)) (x.num.natAbs*y.den+y.num.natAbs*x.den) (x.den*y.den):=by
 rw [zkz,Vw, <- h]
 congr 1
 unfold zjx;split<;>push_cast<;>omega
theorem zow {x y:Rat} (h:decide (x.num<0)≠decide (y.num<0)) (hle:y.num.natAbs*x.den<=x.num.natAbs*y.den):x+y=vh (decide (x.num<0)) (x.num.natAbs*y.den - y.num.natAbs*x.den) (x.den*y.den):=by
 rw [zkz,Vw]
 congr 1
 generalize x.num.natAbs*y.den=a at*
 generalize y.num.natAbs*x.den=b at*
 cases hx:decide (x.num<0)<;>cases hy:decide (y.num<0)<;>simp [hx,hy] at h<;>simp [zjx]<;>omega
theorem zn2 {x y:Rat} (h:decide (x.num<0)≠decide (y.num<0)) (hle:x.num.natAbs*y.den<y.num.natAbs*x.den):x+y=vh (decide (y.num<0)) (y.num.natAbs*x.den - x.num.natAbs*y.den) (x.den*y.den):=by
 rw [zkz,Vw]
 congr 1
 generalize x.num.natAbs*y.den=a at*
 generalize y.num.natAbs*x.den=b at*
 cases hx:decide (x.num<0)<;>cases hy:decide (y.num<0)<;>simp [hx,hy] at h<;>simp [zjx]<;>omega
theorem zqe {a:Int} (h:a≠0):(a:Rat)≠0:=by
 intro e
 exact h (by exact_mod_cast e)
inductive zf7 (np:Nat) (pf pt:Nat->Nat) (S:Nat->Prop):Nat->Prop
 | base {k:Nat}:S k->zf7 np pf pt S k
 | right {i:Nat}:i<np->zf7 np pf pt S (pf i)->zf7 np pf pt S (pt i)
 | left {i:Nat}:i<np->zf7 np pf pt S (pt i)->zf7 np pf pt S (pf i)
def Sz (X:Nat) (q:Rat):Prop:=q.num.natAbs<=X/\q.den<=X
theorem Sz.mono {X Y:Nat} {q:Rat} (h:Sz X q) (hXY:X<=Y):Sz Y q:=⟨uC h.1 hXY,uC h.2 hXY⟩
theorem zyc {X:Nat} {q:Rat} {s M:Int} (hs:s≠0) (h:q*s=M) (h1:M.natAbs<=X) (h2:s.natAbs<=X):Sz X q:=by
 have e:q=Rat.divInt M s:=by
  have j:=zqe hs
  rw [Rat.divInt_eq_div, <- h]
  grind
 have m:(s.gcd M:Int) ∣ s.sign*M:=Int.dvd_trans (Int.gcd_dvd_right s M) (Int.dvd_mul_left _ _)
 have r:0<s.gcd M:=Int.gcd_pos_of_ne_zero_left _ hs
 have l:(s.sign*M).natAbs<=M.natAbs:=by
  rw [Int.natAbs_mul,Int.natAbs_sign,if_neg hs];omega
 constructor
 rotate_left
 . rw [e,Rat.den_divInt,if_neg hs]
   exact uC (Nat.div_le_self _ _) h2
 rw [e,Rat.num_divInt]
 obtain ⟨t,b⟩:=m;rw [b,Int.mul_ediv_cancel_left _ (by omega)];rw [b,Int.natAbs_mul] at l;have j:t.natAbs<=(s.gcd M:Int).natAbs*t.natAbs:=Nat.le_mul_of_pos_left _ (by simpa using r)
 omega
theorem zk6 (q:Rat):((q.den:Int):Rat)≠0:=zqe (by have:=q.den_nz;omega)
theorem zhl (q:Rat):q*((q.den:Int):Rat)=(q.num:Rat):=by
 have h:=zk6 q
 conv=>lhs;lhs;rw [<- Rat.num_divInt_den q]
 rw [Rat.divInt_eq_div]
 grind
theorem Sz.zero:Sz 1 0:=⟨by decide,by decide⟩
theorem Sz.mul {X Y:Nat} {p q:Rat} (hp:Sz X p) (hq:Sz Y q):Sz (X*Y) (p*q):=by
 refine zyc (s:=(p.den:Int)*q.den) (M:=p.num*q.num) (Int.mul_ne_zero (by have:=p.den_nz;omega) (by have:=q.den_nz;omega)) ?_ ?_ ?_
 . have b:=zhl p
   have e:=zhl q
   push_cast at b e |-
   rw [<- b, <- e];grind
 . rw [Int.natAbs_mul];exact Nat.mul_le_mul hp.1 hq.1
 . rw [Int.natAbs_mul];exact Nat.mul_le_mul (by simpa using hp.2) (by simpa using hq.2)
theorem Sz.add {X Y:Nat} {p q:Rat} (hp:Sz X p) (hq:Sz Y q):Sz (2*(X*Y)) (p+q):=by
 refine zyc (s:=(p.den:Int)*q.den) (M:=p.num*q.den+q.num*p.den) (Int.mul_ne_zero (by have:=p.den_nz;omega) (by have:=q.den_nz;omega)) ?_ ?_ ?_
 . have b:=zhl p
   have e:=zhl q
   push_cast at b e |-
   rw [<- b, <- e];grind
 . have b:(p.num*q.den+q.num*p.den).natAbs<=(p.num*q.den).natAbs+(q.num*p.den).natAbs:=by omega
   rw [Int.natAbs_mul,Int.natAbs_mul] at b;have e:=Nat.mul_le_mul hp.1 (show (q.den:Int).natAbs<=Y by simpa using hq.2);have j:=Nat.mul_le_mul hq.1 (show (p.den:Int).natAbs<=X by simpa using hp.2);rw [uH Y X] at j
   omega
 . rw [Int.natAbs_mul]
   have:=Nat.mul_le_mul (show (p.den:Int).natAbs<=X by simpa using hp.2) (show (q.den:Int).natAbs<=Y by simpa using hq.2)
   omega
theorem Sz.short {X e:Nat} {q:Rat} (h:Sz X q) (hX:X<10 ^ e) (he:0<e):yG e q:=⟨X2 (by have:=h.1;omega) he,X2 (by have:=h.2;omega) he⟩
theorem yG.sz {e:Nat} {q:Rat} (h:yG e q):Sz (10 ^ e) q:=⟨Nat.le_of_lt (ZY h.1),Nat.le_of_lt (ZY h.2)⟩
abbrev Dz (e:Nat) (q:Rat):Prop:=Sz (10 ^ e) q
theorem Dz.add {e f g:Nat} {p q:Rat} (hp:Dz e p) (hq:Dz f q) (hg:e+f+1<=g):Dz g (p+q):=by
 refine (Sz.add hp hq).mono ?_
 have b:10 ^ (e+f+1)<=10 ^ g:=Nat.pow_le_pow_right (by omega) hg
 rw [Nat.pow_succ,Nat.pow_add] at b
 omega
theorem Dz.mul {e f g:Nat} {p q:Rat} (hp:Dz e p) (hq:Dz f q) (hg:e+f<=g):Dz g (p*q):=by
 refine (Sz.mul hp hq).mono ?_
 rw [<- Nat.pow_add]
 exact Nat.pow_le_pow_right (by omega) hg
theorem Dz.more {e f:Nat} {q:Rat} (h:Dz e q) (hf:e<=f):Dz f q:=h.mono (Nat.pow_le_pow_right (by omega) hf)
theorem Dz.short {e f:Nat} {q:Rat} (h:Dz e q) (hf:e<f):yG f q:=Sz.short h (Nat.pow_lt_pow_right (by omega) hf) (by omega)
theorem Dz.zero (e:Nat):Dz e 0:=Sz.zero.mono (Nat.pow_pos (by omega))
def yE.stA (T:yE) (r c i k:Nat):Nat->Nat->Int:=fun i' k' =>if i' ≠r/\(i' <i\/(i' =i/\k' <k)) then T.bare r c i' k' else T.cell i' k'
def yE.stB (T:yE) (r c k:Nat):Nat->Nat->Int:=fun i' k' =>if i' =r then (if k' <k/\k' ≠c then -(T.cell r k') else T.cell r k') else T.bare r c i' k'
def stD (A:Nat->Nat->Int) (i k:Nat):Nat->Nat->Int:=fun i' k' =>if i' <i\/(i' =i/\k' <k) then -(A i' k') else A i' k'
section
variable (T:yE) (r c i k m L:Nat)
theorem yE.bare_col (h:i≠r):T.bare r c i c=T.cell i c:=by unfold yE.bare;rw [if_neg h,if_pos rfl]
theorem yE.stA_start (i' k' :Nat):T.stA r c 0 0 i' k' =T.cell i' k' :=by unfold yE.stA;rw [if_neg (by omega)]
theorem yE.stA_skip (i' k' :Nat):T.stA r c (r+1) 0 i' k' =T.stA r c r 0 i' k' :=by
 unfold yE.stA
 by_cases h:i' ≠r/\(i' <r\/(i' =r/\k' <0))
 . rw [if_pos h,if_pos (by omega)]
 rw [if_neg h,if_neg (by omega)]
theorem yE.stA_here:T.stA r c i k i k=T.cell i k:=by unfold yE.stA;rw [if_neg (by omega)]
theorem yE.stA_row (k' :Nat):T.stA r c i k r k' =T.cell r k' :=by unfold yE.stA;rw [if_neg (by omega)]
theorem yE.stA_col0:T.stA r c i 0 i c=T.cell i c:=by unfold yE.stA;rw [if_neg (by omega)]
theorem yE.stA_next (hi:i≠r) (hk:k≠c) (i' k' :Nat):T.stA r c i (k+1) i' k' =if i' =i/\k' =k then (T.cell i k*T.cell r c - T.cell i c*T.cell r k).tdiv T.den else T.stA r c i k i' k' :=by
 unfold yE.stA
 by_cases h:i' =i/\k' =k
 . obtain ⟨rfl,rfl⟩:=h
   rw [if_pos (by omega),if_pos ⟨rfl,rfl⟩];unfold yE.bare;rw [if_neg hi,if_neg hk]
 rw [if_neg h]
 by_cases b:i' ≠r/\(i' <i\/(i' =i/\k' <k))
 . rw [if_pos b,if_pos (by omega)]
 rw [if_neg b,if_neg (by omega)]
theorem yE.stA_col (hi:i≠r) (i' k' :Nat):T.stA r c i (c+1) i' k' =T.stA r c i c i' k' :=by
 unfold yE.stA
 by_cases h:i' =i/\k' =c
 . obtain ⟨rfl,rfl⟩:=h
   rw [if_pos (by omega),if_neg (by omega),yE.bare_col T r k' i' hi]
 by_cases b:i' ≠r/\(i' <i\/(i' =i/\k' <c))
 . rw [if_pos b,if_pos (by omega)]
 rw [if_neg b,if_neg (by omega)]
theorem yE.stA_end (hi:i≠r) (i' k' :Nat) (hk:k' <L):T.stA r c (i+1) 0 i' k' =if i' =i/\k' =c then T.cell i c else T.stA r c i L i' k' :=by
 unfold yE.stA
 by_cases h:i' =i/\k' =c
 . obtain ⟨rfl,rfl⟩:=h
   rw [if_pos (by omega),if_pos ⟨rfl,rfl⟩,yE.bare_col T r k' i' hi]
 rw [if_neg h]
 by_cases b:i' ≠r/\(i' <i\/(i' =i/\k' <L))
 . rw [if_pos b,if_pos (by omega)]
 rw [if_neg b,if_neg (by omega)]
theorem yE.stB_start (i' k' :Nat) (h:i' <=m):T.stB r c 0 i' k' =T.stA r c (m+1) 0 i' k' :=by
 unfold yE.stB yE.stA
 by_cases b:i' =r
 . subst b;rw [if_pos rfl,if_neg (by omega),if_neg (by omega)]
 rw [if_neg b,if_pos (by omega)]
theorem yE.stB_here:T.stB r c k r k=T.cell r k:=by unfold yE.stB;rw [if_pos rfl,if_neg (by omega)]
theorem yE.stB_next (hk:k≠c) (i' k' :Nat):T.stB r c (k+1) i' k' =if i' =r/\k' =k then -(T.cell r k) else T.stB r c k i' k' :=by
 unfold yE.stB
 by_cases b:i' =r
 rotate_left
 . rw [if_neg b,if_neg (show ¬ (i' =r/\k' =k) from fun h=>b h.1),if_neg b]
 subst b
 by_cases e:k' =k
 . subst e;rw [if_pos rfl,if_pos (by omega),if_pos ⟨rfl,rfl⟩]
 rw [if_pos rfl,if_neg (show ¬ (i' =i' /\k' =k) from fun h=>e h.2),if_pos rfl]
 by_cases j:k' <k/\k' ≠c
 . rw [if_pos j,if_pos (by omega)]
 rw [if_neg j,if_neg (by omega)]
theorem yE.stB_col (i' k' :Nat):T.stB r c (c+1) i' k' =T.stB r c c i' k' :=by
 unfold yE.stB
 by_cases b:i' =r
 rotate_left
 . rw [if_neg b,if_neg b]
 rw [if_pos b,if_pos b]
 by_cases e:k' <c/\k' ≠c
 . rw [if_pos e,if_pos (by omega)]
 rw [if_neg e,if_neg (by omega)]
theorem yE.stB_end (i' k' :Nat) (hk:k' <L):T.bare r c i' k' =if i' =r/\k' =c then T.den else T.stB r c L i' k' :=by
 unfold yE.stB yE.bare
 by_cases b:i' =r
 rotate_left
 . rw [if_neg b,if_neg (show ¬ (i' =r/\k' =c) from fun h=>b h.1),if_neg b]
 subst b
 by_cases e:k' =c
 . subst e;rw [if_pos rfl,if_pos rfl,if_pos ⟨rfl,rfl⟩]
 rw [if_pos rfl,if_neg e,if_neg (show ¬ (i' =i' /\k' =c) from fun h=>e h.2),if_pos rfl,if_pos ⟨hk,e⟩]
end
section
variable (A:Nat->Nat->Int) (i k m L:Nat)
theorem zqp (i' k' :Nat):stD A 0 0 i' k' =A i' k' :=by unfold stD;rw [if_neg (by omega)]
theorem ztm:stD A i k i k=A i k:=by unfold stD;rw [if_neg (by omega)]
theorem ztw (i' k' :Nat):stD A i (k+1) i' k' =if i' =i/\k' =k then -(A i k) else stD A i k i' k' :=by
 unfold stD
 by_cases h:i' =i/\k' =k
 . obtain ⟨rfl,rfl⟩:=h
   rw [if_pos (by omega),if_pos ⟨rfl,rfl⟩]
 rw [if_neg h]
 by_cases b:i' <i\/(i' =i/\k' <k)
 . rw [if_pos b,if_pos (by omega)]
 rw [if_neg b,if_neg (by omega)]
theorem zwp (i' k' :Nat) (hk:k' <L):stD A (i+1) 0 i' k' =stD A i L i' k' :=by
 unfold stD
 by_cases b:i' <i\/(i' =i/\k' <L)
 . rw [if_pos b,if_pos (by omega)]
 rw [if_neg b,if_neg (by omega)]
theorem zwb (i' k' :Nat) (hi:i' <=m):stD A (m+1) 0 i' k' = -(A i' k'):=by unfold stD;rw [if_pos (by omega)]
end
open Go.RowKit
theorem ze {p:Prop} (h:p):Hid p:=h
theorem zM {p:Prop} (h:Hid p):p:=h
theorem zD (a:Addr) (n:Nat):(a.add n).block=a.block:=by unfold Addr.add;split<;>rfl
theorem zf3 (a:Addr) (i j:Nat):(a.add i).add j=a.add (i+j):=by
 unfold Addr.add
 by_cases hi:i=0<;>by_cases b:j=0<;>simp [hi,b,Nat.add_assoc]
def yc (w:World) (B size:Nat) (A:Option Addr) (n:Nat) (xs:List Value):Prop:=
 xs.length=n*size/\(0<n->∃ ad,A=some ad/\ad.block<B/\∀ j u,xs[j]?=some u->w.cell? (ad.add j)=some u)
section
variable {w w' :World} {B B' size n:Nat} {A:Option Addr} {xs:List Value}
theorem yc.none_:yc w B size A 0 []:=⟨by simp,fun h=>absurd h (by omega)⟩
theorem yc.at_ {k:Nat} (h:yc w B 1 A n xs) (hk:k<n):∃ b u,A=some b/\b.block<B/\xs[k]?=some u/\w.cell? (b.add k)=some u:=by
 obtain ⟨b,e,hb,l⟩:=h.2 (by omega)
 have j:k<xs.length:=by have:=h.1;omega
 exact ⟨b,xs[k],e,hb,List.getElem?_eq_getElem j,l k _ (List.getElem?_eq_getElem j)⟩
theorem yc.keep (h:yc w B size A n xs) (hk:∀ p:Addr,p.block<B->w'.cell? p=w.cell? p):yc w' B size A n xs:=
 ⟨h.1,fun hn=>by
  obtain ⟨l,e,hb,b⟩:=h.2 hn
  exact ⟨l,e,hb,fun j u hu=>(hk _ (by rw [zD];exact hb)).trans (b j u hu)⟩⟩
theorem yc.more (h:yc w B size A n xs) (hB:B<=B'):yc w B' size A n xs:=
 ⟨h.1,fun hn=>by
  obtain ⟨j,e,hb,b⟩:=h.2 hn
  exact ⟨j,e,by omega,b⟩⟩
theorem yc.below (h:yc w B size A n xs) (hb:Below B w w'):yc w' B size A n xs:=h.keep fun _ hp=>hb.cell hp
theorem yc.drew (h:yc w B size A n xs):yc w.drew B size A n xs:=h
theorem yc.alloc (h:yc w B size A n xs) (hB:B<=w.heap.size) (o:Obj):yc (w.alloc o) B size A n xs:=h.keep fun p hp=>World.cell?_alloc_lt w o p (by omega)
theorem yc.cut (h:yc w B size A n xs) {k cap:Nat} (hk:k<=n) (hc:n<=cap):
 yc w B size (if cap=k then A else A.map (·.add (k*size))) (n - k) (xs.drop (k*size)):=by
 refine ⟨by rw [List.length_drop,h.1,Nat.sub_mul],fun hn=>?_⟩
 obtain ⟨e,rfl,hb,b⟩:=h.2 (by omega)
 rw [if_neg (by omega)]
 refine ⟨e.add (k*size),rfl,by rw [zD];exact hb,fun j u hu=>?_⟩
 rw [zf3]
 exact b _ u (by rw [<- hu,List.getElem?_drop])
theorem yc.head (h:yc w B size A n xs) {k:Nat} (hk:k<=n):yc w B size A k (xs.take (k*size)):=by
 refine ⟨by rw [List.length_take,h.1];exact Nat.min_eq_left (Nat.mul_le_mul_right _ hk),fun hn=>?_⟩
 obtain ⟨e,rfl,hb,b⟩:=h.2 (by omega)
 exact ⟨e,rfl,hb,fun j u hu=>b j u (by
  rw [List.getElem?_take] at hu
  split at hu
  . exact hu
  cases hu)⟩
theorem yc.of_own {base:Nat} {e:TypeId} {c:Nat} (h:w.ownsRow base e size (.slice A n c) n xs):yc w w.heap.size size A n xs:=by
 refine ⟨h.1,fun hn=>?_⟩
 obtain ⟨g,m,b,_,l⟩:=h.form hn
 have j:A=some ⟨g,0,none⟩:=by injection b
 subst j
 exact ⟨_,rfl,l,h.cells (g:=g) rfl⟩
end
def Blk (w:World) (g:Nat) (t:TypeId) (cs:Array Value):Prop:=w.heap[g]?=some (.cells cs t (0,0))
section
variable {w w' :World} {g:Nat} {t:TypeId} {cs:Array Value}
theorem Blk.lt (h:Blk w g t cs):g<w.heap.size:=by
 rcases uL g w.heap.size with e | b
 . exact e
 . unfold Blk at h;rw [Array.getElem?_eq_none b] at h;cases h
theorem Blk.cell (h:Blk w g t cs) (i:Nat):w.cell? ⟨g,i,none⟩=cs[i]?:=cell_of_row w g i cs t (0,0) h
theorem Blk.frozen (h:Blk w g t cs) (i:Nat):w.frozen? ⟨g,i,none⟩=false:=by
 unfold Blk at h
 simp [World.frozen?,h]
theorem Blk.new (w:World) (t:TypeId) (cs:Array Value):Blk (w.alloc (.cells cs t)) w.heap.size t cs:=heap_alloc_new w _
theorem Blk.drew (h:Blk w g t cs):Blk w.drew g t cs:=h
theorem Blk.drewN (h:Blk w g t cs) (n:Nat):Blk (w.drewN n) g t cs:=h
theorem Blk.alloc (h:Blk w g t cs) (o:Obj):Blk (w.alloc o) g t cs:=(Below.heap_alloc w o g h.lt).trans h
theorem Blk.set_ (h:Blk w g t cs) (i:Nat) (u:Value):Blk (w.setCell ⟨g,i,none⟩ u) g t (cs.setIfInBounds i u):=by
 unfold Blk at h |-
 simp [World.setCell,Array.getElem?_modify,h]
theorem Blk.far (h:Blk w g t cs) {p:Addr} (hp:g≠p.block) (u:Value):Blk (w.setCell p u) g t cs:=(Below.heap_setCell w p u g hp).trans h
theorem Blk.below {B:Nat} (h:Blk w g t cs) (hb:Below B w w') (hg:g<B):Blk w' g t cs:=(hb.block g hg).trans h
theorem Blk.grown {row:Option Nat} (h:Blk w g t cs) (hb:w.grownBy w' row) (hg:some g≠row):Blk w' g t cs:=(hb.block g h.lt hg).trans h
theorem Blk.reads {n:Nat} (h:Blk w g t cs) (hn:n<=cs.size):yc w w.heap.size 1 (some ⟨g,0,none⟩) n (cs.toList.take n):=by
 refine ⟨by simp [Nat.min_eq_left hn],fun _=>⟨_,rfl,h.lt,fun j u hu=>?_⟩⟩
 have e:(⟨g,0,none⟩:Addr).add j=⟨g,j,none⟩:=by
  unfold Addr.add
  by_cases b:j=0
  . subst b;rfl
  simp [b]
 rw [e,h.cell j]
 rw [List.getElem?_take] at hu
 split at hu
 . rw [<- hu];simp
 cases hu
end
section
variable {w:World} {g:Nat} {t:TypeId} {cs:List Value}
theorem bp1 {a0:Value} (h:Blk w g t (a0::cs).toArray):w.cell? ⟨g,0,none⟩=some a0∧g<w.heap.size:=
 ⟨h.cell 0,h.lt⟩
theorem bq1 {a0:Value} (h:Hid (Blk w g t (a0::cs).toArray)):w.cell? ⟨g,0,none⟩=some a0∧g<w.heap.size:=
 ⟨h.out.cell 0,h.out.lt⟩
theorem bp2 {a0 a1:Value} (h:Blk w g t (a0::a1::cs).toArray):w.cell? ⟨g,0,none⟩=some a0∧w.cell? ⟨g,1,none⟩=some a1∧g<w.heap.size:=
 ⟨h.cell 0,h.cell 1,h.lt⟩
theorem bq2 {a0 a1:Value} (h:Hid (Blk w g t (a0::a1::cs).toArray)):w.cell? ⟨g,0,none⟩=some a0∧w.cell? ⟨g,1,none⟩=some a1∧g<w.heap.size:=
 ⟨h.out.cell 0,h.out.cell 1,h.out.lt⟩
theorem bp3 {a0 a1 a2:Value} (h:Blk w g t (a0::a1::a2::cs).toArray):w.cell? ⟨g,0,none⟩=some a0∧w.cell? ⟨g,1,none⟩=some a1∧w.cell? ⟨g,2,none⟩=some a2∧g<w.heap.size:=
 ⟨h.cell 0,h.cell 1,h.cell 2,h.lt⟩
theorem bq3 {a0 a1 a2:Value} (h:Hid (Blk w g t (a0::a1::a2::cs).toArray)):w.cell? ⟨g,0,none⟩=some a0∧w.cell? ⟨g,1,none⟩=some a1∧w.cell? ⟨g,2,none⟩=some a2∧g<w.heap.size:=
 ⟨h.out.cell 0,h.out.cell 1,h.out.cell 2,h.out.lt⟩
theorem bq4 {a0 a1 a2 a3:Value} (h:Hid (Blk w g t (a0::a1::a2::a3::cs).toArray)):w.cell? ⟨g,0,none⟩=some a0∧w.cell? ⟨g,1,none⟩=some a1∧w.cell? ⟨g,2,none⟩=some a2∧w.cell? ⟨g,3,none⟩=some a3∧g<w.heap.size:=
 ⟨h.out.cell 0,h.out.cell 1,h.out.cell 2,h.out.cell 3,h.out.lt⟩
theorem bp5 {a0 a1 a2 a3 a4:Value} (h:Blk w g t (a0::a1::a2::a3::a4::cs).toArray):w.cell? ⟨g,0,none⟩=some a0∧w.cell? ⟨g,1,none⟩=some a1∧w.cell? ⟨g,2,none⟩=some a2∧w.cell? ⟨g,3,none⟩=some a3∧w.cell? ⟨g,4,none⟩=some a4∧g<w.heap.size:=
 ⟨h.cell 0,h.cell 1,h.cell 2,h.cell 3,h.cell 4,h.lt⟩
theorem bq5 {a0 a1 a2 a3 a4:Value} (h:Hid (Blk w g t (a0::a1::a2::a3::a4::cs).toArray)):w.cell? ⟨g,0,none⟩=some a0∧w.cell? ⟨g,1,none⟩=some a1∧w.cell? ⟨g,2,none⟩=some a2∧w.cell? ⟨g,3,none⟩=some a3∧w.cell? ⟨g,4,none⟩=some a4∧g<w.heap.size:=
 ⟨h.out.cell 0,h.out.cell 1,h.out.cell 2,h.out.cell 3,h.out.cell 4,h.out.lt⟩
theorem bp6 {a0 a1 a2 a3 a4 a5:Value} (h:Blk w g t (a0::a1::a2::a3::a4::a5::cs).toArray):w.cell? ⟨g,0,none⟩=some a0∧w.cell? ⟨g,1,none⟩=some a1∧w.cell? ⟨g,2,none⟩=some a2∧w.cell? ⟨g,3,none⟩=some a3∧w.cell? ⟨g,4,none⟩=some a4∧w.cell? ⟨g,5,none⟩=some a5∧g<w.heap.size:=
 ⟨h.cell 0,h.cell 1,h.cell 2,h.cell 3,h.cell 4,h.cell 5,h.lt⟩
theorem bq6 {a0 a1 a2 a3 a4 a5:Value} (h:Hid (Blk w g t (a0::a1::a2::a3::a4::a5::cs).toArray)):w.cell? ⟨g,0,none⟩=some a0∧w.cell? ⟨g,1,none⟩=some a1∧w.cell? ⟨g,2,none⟩=some a2∧w.cell? ⟨g,3,none⟩=some a3∧w.cell? ⟨g,4,none⟩=some a4∧w.cell? ⟨g,5,none⟩=some a5∧g<w.heap.size:=
 ⟨h.out.cell 0,h.out.cell 1,h.out.cell 2,h.out.cell 3,h.out.cell 4,h.out.cell 5,h.out.lt⟩
theorem bp7 {a0 a1 a2 a3 a4 a5 a6:Value} (h:Blk w g t (a0::a1::a2::a3::a4::a5::a6::cs).toArray):w.cell? ⟨g,0,none⟩=some a0∧w.cell? ⟨g,1,none⟩=some a1∧w.cell? ⟨g,2,none⟩=some a2∧w.cell? ⟨g,3,none⟩=some a3∧w.cell? ⟨g,4,none⟩=some a4∧w.cell? ⟨g,5,none⟩=some a5∧w.cell? ⟨g,6,none⟩=some a6∧g<w.heap.size:=
 ⟨h.cell 0,h.cell 1,h.cell 2,h.cell 3,h.cell 4,h.cell 5,h.cell 6,h.lt⟩
theorem bq8 {a0 a1 a2 a3 a4 a5 a6 a7:Value} (h:Hid (Blk w g t (a0::a1::a2::a3::a4::a5::a6::a7::cs).toArray)):w.cell? ⟨g,0,none⟩=some a0∧w.cell? ⟨g,1,none⟩=some a1∧w.cell? ⟨g,2,none⟩=some a2∧w.cell? ⟨g,3,none⟩=some a3∧w.cell? ⟨g,4,none⟩=some a4∧w.cell? ⟨g,5,none⟩=some a5∧w.cell? ⟨g,6,none⟩=some a6∧w.cell? ⟨g,7,none⟩=some a7∧g<w.heap.size:=
 ⟨h.out.cell 0,h.out.cell 1,h.out.cell 2,h.out.cell 3,h.out.cell 4,h.out.cell 5,h.out.cell 6,h.out.cell 7,h.out.lt⟩
end
theorem fp3 {w:World} {g:Nat} {t:TypeId} {cs:Array Value} (h:Blk w g t cs):w.frozen? ⟨g,0,none⟩=false∧w.frozen? ⟨g,1,none⟩=false∧w.frozen? ⟨g,2,none⟩=false:=
 ⟨h.frozen 0,h.frozen 1,h.frozen 2⟩
theorem fq3 {w:World} {g:Nat} {t:TypeId} {cs:Array Value} (h:Hid (Blk w g t cs)):w.frozen? ⟨g,0,none⟩=false∧w.frozen? ⟨g,1,none⟩=false∧w.frozen? ⟨g,2,none⟩=false:=
 ⟨h.out.frozen 0,h.out.frozen 1,h.out.frozen 2⟩
theorem fp5 {w:World} {g:Nat} {t:TypeId} {cs:Array Value} (h:Blk w g t cs):w.frozen? ⟨g,0,none⟩=false∧w.frozen? ⟨g,1,none⟩=false∧w.frozen? ⟨g,2,none⟩=false∧w.frozen? ⟨g,3,none⟩=false∧w.frozen? ⟨g,4,none⟩=false:=
 ⟨h.frozen 0,h.frozen 1,h.frozen 2,h.frozen 3,h.frozen 4⟩
theorem fq5 {w:World} {g:Nat} {t:TypeId} {cs:Array Value} (h:Hid (Blk w g t cs)):w.frozen? ⟨g,0,none⟩=false∧w.frozen? ⟨g,1,none⟩=false∧w.frozen? ⟨g,2,none⟩=false∧w.frozen? ⟨g,3,none⟩=false∧w.frozen? ⟨g,4,none⟩=false:=
 ⟨h.out.frozen 0,h.out.frozen 1,h.out.frozen 2,h.out.frozen 3,h.out.frozen 4⟩
theorem fp6 {w:World} {g:Nat} {t:TypeId} {cs:Array Value} (h:Blk w g t cs):w.frozen? ⟨g,0,none⟩=false∧w.frozen? ⟨g,1,none⟩=false∧w.frozen? ⟨g,2,none⟩=false∧w.frozen? ⟨g,3,none⟩=false∧w.frozen? ⟨g,4,none⟩=false∧w.frozen? ⟨g,5,none⟩=false:=
 ⟨h.frozen 0,h.frozen 1,h.frozen 2,h.frozen 3,h.frozen 4,h.frozen 5⟩
theorem fq6 {w:World} {g:Nat} {t:TypeId} {cs:Array Value} (h:Hid (Blk w g t cs)):w.frozen? ⟨g,0,none⟩=false∧w.frozen? ⟨g,1,none⟩=false∧w.frozen? ⟨g,2,none⟩=false∧w.frozen? ⟨g,3,none⟩=false∧w.frozen? ⟨g,4,none⟩=false∧w.frozen? ⟨g,5,none⟩=false:=
 ⟨h.out.frozen 0,h.out.frozen 1,h.out.frozen 2,h.out.frozen 3,h.out.frozen 4,h.out.frozen 5⟩
theorem fp7 {w:World} {g:Nat} {t:TypeId} {cs:Array Value} (h:Blk w g t cs):w.frozen? ⟨g,0,none⟩=false∧w.frozen? ⟨g,1,none⟩=false∧w.frozen? ⟨g,2,none⟩=false∧w.frozen? ⟨g,3,none⟩=false∧w.frozen? ⟨g,4,none⟩=false∧w.frozen? ⟨g,5,none⟩=false∧w.frozen? ⟨g,6,none⟩=false:=
 ⟨h.frozen 0,h.frozen 1,h.frozen 2,h.frozen 3,h.frozen 4,h.frozen 5,h.frozen 6⟩
theorem fq10 {w:World} {g:Nat} {t:TypeId} {cs:Array Value} (h:Hid (Blk w g t cs)):w.frozen? ⟨g,0,none⟩=false∧w.frozen? ⟨g,1,none⟩=false∧w.frozen? ⟨g,2,none⟩=false∧w.frozen? ⟨g,3,none⟩=false∧w.frozen? ⟨g,4,none⟩=false∧w.frozen? ⟨g,5,none⟩=false∧w.frozen? ⟨g,6,none⟩=false∧w.frozen? ⟨g,7,none⟩=false∧w.frozen? ⟨g,8,none⟩=false∧w.frozen? ⟨g,9,none⟩=false:=
 ⟨h.out.frozen 0,h.out.frozen 1,h.out.frozen 2,h.out.frozen 3,h.out.frozen 4,h.out.frozen 5,h.out.frozen 6,h.out.frozen 7,h.out.frozen 8,h.out.frozen 9⟩
theorem zzk {w:World} {g:Nat} {t:TypeId} {a0:Value} (h:Blk w g t #[a0]):w.cell? ⟨g,0,none⟩=some a0/\g<w.heap.size:=
 ⟨h.cell 0,h.lt⟩
theorem zw8 {w:World} {g:Nat} {t:TypeId} {a0 a1:Value} (h:Blk w g t #[a0,a1]):w.cell? ⟨g,0,none⟩=some a0/\w.cell? ⟨g,1,none⟩=some a1/\g<w.heap.size:=
 ⟨h.cell 0,h.cell 1,h.lt⟩
theorem bkc3 {w:World} {g:Nat} {t:TypeId} {a0 a1 a2:Value} (h:Blk w g t #[a0,a1,a2]):w.cell? ⟨g,0,none⟩=some a0/\w.cell? ⟨g,1,none⟩=some a1/\w.cell? ⟨g,2,none⟩=some a2/\g<w.heap.size:=
 ⟨h.cell 0,h.cell 1,h.cell 2,h.lt⟩
theorem zth {w:World} {g:Nat} {t:TypeId} {a0 a1 a2 a3 a4:Value} (h:Blk w g t #[a0,a1,a2,a3,a4]):w.cell? ⟨g,0,none⟩=some a0/\w.cell? ⟨g,1,none⟩=some a1/\w.cell? ⟨g,2,none⟩=some a2/\w.cell? ⟨g,3,none⟩=some a3/\w.cell? ⟨g,4,none⟩=some a4/\g<w.heap.size:=
 ⟨h.cell 0,h.cell 1,h.cell 2,h.cell 3,h.cell 4,h.lt⟩
theorem bkc6 {w:World} {g:Nat} {t:TypeId} {a0 a1 a2 a3 a4 a5:Value} (h:Blk w g t #[a0,a1,a2,a3,a4,a5]):w.cell? ⟨g,0,none⟩=some a0/\w.cell? ⟨g,1,none⟩=some a1/\w.cell? ⟨g,2,none⟩=some a2/\w.cell? ⟨g,3,none⟩=some a3/\w.cell? ⟨g,4,none⟩=some a4/\w.cell? ⟨g,5,none⟩=some a5/\g<w.heap.size:=
 ⟨h.cell 0,h.cell 1,h.cell 2,h.cell 3,h.cell 4,h.cell 5,h.lt⟩
theorem bkc7 {w:World} {g:Nat} {t:TypeId} {a0 a1 a2 a3 a4 a5 a6:Value} (h:Blk w g t #[a0,a1,a2,a3,a4,a5,a6]):w.cell? ⟨g,0,none⟩=some a0/\w.cell? ⟨g,1,none⟩=some a1/\w.cell? ⟨g,2,none⟩=some a2/\w.cell? ⟨g,3,none⟩=some a3/\w.cell? ⟨g,4,none⟩=some a4/\w.cell? ⟨g,5,none⟩=some a5/\w.cell? ⟨g,6,none⟩=some a6/\g<w.heap.size:=
 ⟨h.cell 0,h.cell 1,h.cell 2,h.cell 3,h.cell 4,h.cell 5,h.cell 6,h.lt⟩
theorem zw9 {w:World} {g:Nat} {t:TypeId} {a0 a1 a2 a3 a4 a5 a6 a7:Value} (h:Blk w g t #[a0,a1,a2,a3,a4,a5,a6,a7]):w.cell? ⟨g,0,none⟩=some a0/\w.cell? ⟨g,1,none⟩=some a1/\w.cell? ⟨g,2,none⟩=some a2/\w.cell? ⟨g,3,none⟩=some a3/\w.cell? ⟨g,4,none⟩=some a4/\w.cell? ⟨g,5,none⟩=some a5/\w.cell? ⟨g,6,none⟩=some a6/\w.cell? ⟨g,7,none⟩=some a7/\g<w.heap.size:=
 ⟨h.cell 0,h.cell 1,h.cell 2,h.cell 3,h.cell 4,h.cell 5,h.cell 6,h.cell 7,h.lt⟩
theorem zy7 {w:World} {g:Nat} {t:TypeId} {a0 a1 a2 a3 a4 a5 a6 a7 a8 a9:Value} (h:Blk w g t #[a0,a1,a2,a3,a4,a5,a6,a7,a8,a9]):w.cell? ⟨g,0,none⟩=some a0/\w.cell? ⟨g,1,none⟩=some a1/\w.cell? ⟨g,2,none⟩=some a2/\w.cell? ⟨g,3,none⟩=some a3/\w.cell? ⟨g,4,none⟩=some a4/\w.cell? ⟨g,5,none⟩=some a5/\w.cell? ⟨g,6,none⟩=some a6/\w.cell? ⟨g,7,none⟩=some a7/\w.cell? ⟨g,8,none⟩=some a8/\w.cell? ⟨g,9,none⟩=some a9/\g<w.heap.size:=
 ⟨h.cell 0,h.cell 1,h.cell 2,h.cell 3,h.cell 4,h.cell 5,h.cell 6,h.cell 7,h.cell 8,h.cell 9,h.lt⟩
def XQ (ds:List Nat):List Value:=ds.map fun (d:Nat)=>Value.int .u32 (d:Int)
def ZL (ds:List Nat):List Value:=ds.map fun (d:Nat)=>Value.int .i64 (d:Int)
theorem vV (ds:List Nat):(XQ ds).length=ds.length:=by simp [XQ]
theorem Xr (ds:List Nat):(ZL ds).length=ds.length:=by simp [ZL]
theorem xf {ds:List Nat} {k:Nat} (hk:k<ds.length):(XQ ds)[k]?=some (.int .u32 (ds[k]:Int)):=by simp [XQ,hk]
theorem vH {ds:List Nat} {k:Nat} (hk:k<ds.length):(ZL ds)[k]?=some (.int .i64 (ds[k]:Int)):=by simp [ZL,hk]
theorem zdu (ds:List Nat) (k:Nat):(XQ ds).take k=XQ (ds.take k):=by simp [XQ,List.map_take]
theorem zo8 (ds:List Nat) (k:Nat):(ZL ds).take k=ZL (ds.take k):=by simp [ZL,List.map_take]
theorem VN (a b:List Nat):ZL (a ++ b)=ZL a ++ ZL b:=by simp [ZL]
def zaa (w:World) (B:Nat) (v:Value) (n:Nat):Prop:=
 ∃ A c ds,v= .slice A ds.length c/\ds.length<=c/\c<=maxLen/\yc w B 1 A ds.length (XQ ds)/\yZ 4294967296 ds/\val 4294967296 ds=n
abbrev yH (w:World) (v:Value) (n:Nat):Prop:=zaa w w.heap.size v n
theorem zaa.below {w w' :World} {B B' :Nat} {v:Value} {n:Nat} (h:zaa w B v n) (hb:Below B w w') (hB:B<=B'):zaa w' B' v n:=by
 obtain ⟨A,c,ds,l,e,r,j,m,b⟩:=h
 exact ⟨A,c,ds,l,e,r,(j.below hb).more hB,m,b⟩
theorem yH.below {w w' :World} {v:Value} {n:Nat} (h:yH w v n) (hb:Below w.heap.size w w'):yH w' v n:=zaa.below h hb hb.size
def zur (w:World) (B n:Nat) (e:Ending) (w' :World):Prop:=∃ v,e= .returned v/\zaa w B v n/\w=w'
def zaf (w:World) (n:Nat) (e:Ending) (w' :World):Prop:=∃ v,e= .returned v/\yH w' v n/\Below w.heap.size w w'
theorem zrv {ds:List Nat} {k:Nat} (hk:k<ds.length) (h:val 4294967296 (ds.take (k+1))=val 4294967296 ds) (h0:ds[k]=0):val 4294967296 (ds.take k)=val 4294967296 ds:=by
 rw [yV _ _ _ hk,h0] at h
 omega
def yA (ds:List Nat):Array Value:=(XQ ds).toArray
theorem zio (ds:List Nat):(yA ds).size=ds.length:=by simp [yA,vV]
theorem xJ {ds:List Nat} {k:Nat} (hk:k<ds.length):(yA ds)[k]?=some (.int .u32 (ds[k]:Int)):=by
 unfold yA;rw [List.getElem?_toArray];exact xf hk
theorem xa (ds:List Nat) (k d:Nat):(yA ds).setIfInBounds k (.int .u32 (d:Int))=yA (ds.set k d):=by
 unfold yA XQ
 simp [List.map_set]
theorem zjc (n:Nat):madeCells #[Value.int .u32 0] n=yA (List.replicate n 0):=by
 apply Array.ext'
 rw [toList_madeCells_one]
 simp [yA,XQ]
theorem vM {w:World} {g t:Nat} {ds:List Nat} (h:Blk w g t (yA ds)):yc w w.heap.size 1 (some ⟨g,0,none⟩) ds.length (XQ ds):=by
 have:=h.reads (n:=ds.length) (by rw [zio];exact uA)
 rw [show (yA ds).toList.take ds.length=XQ ds by rw [<- vV ds];simp [yA]] at this
 exact this
def RetD (w:World) (v:Value) (e:Ending) (w' :World):Prop:=e= .returned v/\∃ n,w' =w.drewN n
def VE (w:World) (v:Value) (e:Ending) (w' :World):Prop:=e= .returned v/\Below w.heap.size w w'
theorem zk {B:Nat} {a w:World} (h:Below B a w) (n:Nat):Below B a (w.drewN n):=⟨h.os,h.tape,h.output,h.size,h.block⟩
def Ret2 (w:World) (v0 v1:Value) (e:Ending) (w' :World):Prop:=e= .returned (.tuple #[v0,v1])/\w=w'
def zba (w:World) (v:Value) (e:Ending) (w' :World):Prop:=e= .returned v/\w=w'
section
variable {P:Program} {f:FuncId} {args:Array Value} {w:World} {n a:Nat} {v:Value}
theorem zwx (h:Calls P f args (w.drewN n) (zba (w.drewN n) v)):Calls P f args (w.drewN n) fun e w'' =>e= .returned v/\∃ m,w'' =w.drewN m:=
 h.mono fun _ _ ⟨he,hm⟩=>⟨he,n,hm.symm⟩
theorem zt5 (h:Calls P f args (w.drewN (a+n)) (zba (w.drewN (a+n)) v)):Calls P f args (w.drewN (a+n)) fun e w'' =>e= .returned v/\∃ m,w'' =w.drewN (a+m):=
 h.mono fun _ _ ⟨he,hm⟩=>⟨he,n,hm.symm⟩
end
theorem ext {a b c:World} (h:Below a.heap.size a b) (k:Below b.heap.size b c):Below a.heap.size a c:=h.trans (k.mono h.size)
theorem zf (w:World) (o:Obj):Below w.heap.size w (w.alloc o):=(Below.refl _ _).alloc (uA) o
theorem yR (w:World):Below w.heap.size w w:=Below.refl _ _
theorem kb_ {w w2:World} {g:Nat} {t:TypeId} {cs:Array Value} (h:Hid (Blk w g t cs)) (hb:Below w.heap.size w w2):Hid (Blk w2 g t cs):=Blk.below h.out hb (Blk.lt h.out)
theorem eb_ {a b c:World} (h:Hid (Below a.heap.size a b)) (k:Below b.heap.size b c):Hid (Below a.heap.size a c):=ext h.out k
theorem zC (w:World) (n:Nat):Below w.heap.size w (w.drewN n):=zk (Below.refl _ _) n
theorem hz3 {pa:Prop} {pb:Prop} {pc:Prop} (a:pa) (b:pb) (c:pc):Hid pa/\Hid pb/\Hid pc:=⟨a,b,c⟩
theorem hz4 {pa:Prop} {pb:Prop} {pc:Prop} {pd:Prop} (a:pa) (b:pb) (c:pc) (d:pd):Hid pa/\Hid pb/\Hid pc/\Hid pd:=⟨a,b,c,d⟩
theorem hz5 {pa:Prop} {pb:Prop} {pc:Prop} {pd:Prop} {pe:Prop} (a:pa) (b:pb) (c:pc) (d:pd) (e:pe):Hid pa/\Hid pb/\Hid pc/\Hid pd/\Hid pe:=⟨a,b,c,d,e⟩
theorem hz6 {pa:Prop} {pb:Prop} {pc:Prop} {pd:Prop} {pe:Prop} {pf:Prop} (a:pa) (b:pb) (c:pc) (d:pd) (e:pe) (f:pf):Hid pa/\Hid pb/\Hid pc/\Hid pd/\Hid pe/\Hid pf:=⟨a,b,c,d,e,f⟩
theorem hz7 {pa:Prop} {pb:Prop} {pc:Prop} {pd:Prop} {pe:Prop} {pf:Prop} {pg:Prop} (a:pa) (b:pb) (c:pc) (d:pd) (e:pe) (f:pf) (g:pg):Hid pa/\Hid pb/\Hid pc/\Hid pd/\Hid pe/\Hid pf/\Hid pg:=⟨a,b,c,d,e,f,g⟩
theorem hz8 {pa:Prop} {pb:Prop} {pc:Prop} {pd:Prop} {pe:Prop} {pf:Prop} {pg:Prop} {ph:Prop} (a:pa) (b:pb) (c:pc) (d:pd) (e:pe) (f:pf) (g:pg) (h:ph):Hid pa/\Hid pb/\Hid pc/\Hid pd/\Hid pe/\Hid pf/\Hid pg/\Hid ph:=⟨a,b,c,d,e,f,g,h⟩
theorem xGD {α:Type} {l:List α} {k:Nat} {d:α} (h:k<l.length):l.getD k d=l[k]:=by simp [List.getD,List.getElem?_eq_getElem h]
structure Chg (S:Nat->Prop) (w w' :World):Prop where
 os:w'.os=w.os
 tape:w'.tape=w.tape
 output:w'.output=w.output
 size:w.heap.size<=w'.heap.size
 block:∀ k,k<w.heap.size->¬ S k->w'.heap[k]?=w.heap[k]?
section
variable {S T:Nat->Prop} {w w1 w2 w' :World}
theorem Chg.refl (w:World):Chg S w w:=⟨rfl,rfl,rfl,uA,fun _ _ _=>rfl⟩
theorem Chg.of_below (h:Below w.heap.size w w'):Chg S w w' :=⟨h.os,h.tape,h.output,h.size,fun k hk _=>h.block k hk⟩
theorem Chg.of_grown {g:Nat} (h:w.grownBy w' (some g)) (hg:S g):Chg S w w' :=
 ⟨h.os,h.tape,h.output,h.size,fun k hk hS=>h.block k hk (fun e=>hS (by injection e with e;rw [e];exact hg))⟩
theorem Chg.trans (h:Chg S w w1) (k:Chg T w1 w2) (hT:∀ b,b<w.heap.size->T b->S b):Chg S w w2:=
 ⟨k.os.trans h.os,k.tape.trans h.tape,k.output.trans h.output,uC h.size k.size,
  fun i hi hS=>(k.block i (uK hi h.size) (fun ht=>hS (hT i hi ht))).trans (h.block i hi hS)⟩
theorem Chg.mono (h:Chg S w w') (hT:∀ b,b<w.heap.size->S b->T b):Chg T w w' :=⟨h.os,h.tape,h.output,h.size,fun k hk hS=>h.block k hk (fun hs=>hS (hT k hk hs))⟩
theorem Chg.below {B:Nat} (h:Chg S w w') (hB:B<=w.heap.size) (hS:∀ b,S b->B<=b):Below B w w' :=
 ⟨h.os,h.tape,h.output,h.size,fun k hk=>h.block k (uK hk hB) (fun hs=>by have:=hS k hs;omega)⟩
theorem Chg.blk {g:Nat} {t:TypeId} {cs:Array Value} (h:Chg S w w') (hk:Blk w g t cs) (hg:¬ S g):Blk w' g t cs:=(h.block g hk.lt hg).trans hk
theorem Chg.cell {p:Addr} {v:Value} (h:Chg S w w') (hc:w.cell? p=some v) (hp:¬ S p.block):w'.cell? p=some v:=
 (World.cell?_of_block (h.block p.block (World.block_lt_of_cell? w _ hc) hp)).trans hc
end
theorem Chg.setCell {S:Nat->Prop} {w w' :World} (h:Chg S w w') {p:Addr} (hp:S p.block) (u:Value):Chg S w (w'.setCell p u):=
 ⟨h.os,h.tape,h.output,by have:=h.size;simpa [World.setCell] using this,fun k hk hS=>(Below.heap_setCell w' p u k (fun e=>hS (e ▸ hp))).trans (h.block k hk hS)⟩
def zr0 (w:World) (A:Option Addr) (c:Nat) (ds:List Nat) (e:Ending) (w' :World):Prop:=
 ∃ k,k<=ds.length/\e= .returned (.slice A k c)/\yZ 4294967296 (ds.take k)/\val 4294967296 (ds.take k)=val 4294967296 ds/\w=w'
theorem zjg {k:Nat} {ds:List Nat} (hs:zF 4294967296 ds) (hk:k<=ds.length) (hlast:∀ h:0<k,ds[k - 1]≠0):yZ 4294967296 (ds.take k):=by
 have b:(ds.take k).length=k:=by rw [List.length_take];omega
 refine yZ.mk_ (hs.take k) ?_
 intro h
 rw [List.getElem_take]
 have:=hlast (by omega)
 simp only [b]
 exact this
theorem ziq (A:Option Addr) (c:Nat) (ds:List Nat) (w:World) (B:Nat) (hr:yc w B 1 A ds.length (XQ ds)) (hs:zF 4294967296 ds) (hl:ds.length<=c) (hc:c<=maxLen):
 Calls prog 113 #[.slice A ds.length c] w (zr0 w A c ds):=by
 have r:=ze hc
 unfold maxLen at hc
 go_in
 go_wp2
 go_loop [0] (fun v=>∃ k:Nat,k<=ds.length/\v= .slice A k c/\Hid (val 4294967296 (ds.take k)=val 4294967296 ds)) (fun v=>match v with | .slice _ n _=>n | _=>0)
 case atStart=>exact ⟨ds.length,uA,rfl,by rw [List.take_length];exact rfl⟩
 case round=>
  obtain ⟨k,b,rfl,j⟩:=hrel
  by_cases m:0<k
  rotate_left
  . obtain rfl:k=0:=by omega
    go_wp2;go_ret;exact ⟨0,b,rfl,zjg hs b (fun h=>absurd h (by omega)),j.o,rfl⟩
  obtain ⟨z,u,rfl,hb,e,y⟩:=hr.at_ (k:=k - 1) (by omega)
  rw [xf (by omega)] at e;injection e with e
  subst e
  by_cases l:ds[k - 1]=0
  rotate_left
  . have g0:((ds[k - 1]:Int) == 0)=false:=by rw [beq_eq_false_iff_ne];omega
    go_wp2;go_ret;exact ⟨k,b,rfl,zjg hs b (fun _=>l),j.o,rfl⟩
  have g0:((ds[k - 1]:Int) == 0)=true:=by rw [l];rfl
  go_wp2;go_round
  case rel=>
   refine ⟨k - 1,by omega,rfl,?_⟩;exact zrv (by omega) (by rw [show k - 1+1=k by omega];exact j.o) l
  case measure=>simp;omega
theorem zku (A:Option Addr) (c:Nat) (ds:List Nat) (w:World) (B:Nat) (hr:yc w B 1 A ds.length (XQ ds)) (hs:zF 4294967296 ds) (hl:ds.length<=c) (hc:c<=maxLen):
 Calls prog 113 #[.slice A ds.length c] w (zur w B (val 4294967296 ds)):=by
 refine (ziq A c ds w B hr hs hl hc).mono ?_
 rintro e w' ⟨k,l,rfl,m,j,rfl⟩
 have b:(ds.take k).length=k:=by rw [List.length_take];omega
 refine ⟨_,rfl,⟨A,c,ds.take k,by rw [b],by omega,hc,?_,m,j⟩,rfl⟩
 have:=hr.head (k:=k) l
 rw [b, <- zdu]
 simpa using this
theorem ZU (A:Option Addr) (n c:Nat) (ds:List Nat) (w:World) (B:Nat) (hr:yc w B 1 A n (XQ ds)) (hs:zF 4294967296 ds) (hl:n<=c) (hc:c<=maxLen):
 Calls prog 113 #[.slice A n c] w (zur w B (val 4294967296 ds)):=by
 have b:ds.length=n:=by have:=hr.1;rw [vV] at this;omega
 subst b
 exact zku A c ds w B hr hs hl hc
theorem zga (A:Option Addr) (n c:Nat) (ds:List Nat) (w:World) (B:Nat) (hr:yc w B 1 A n (XQ ds)) (hs:zF 4294967296 ds) (hl:n<=c) (hc:c<=maxLen):
 Calls prog 113 #[.slice A n c] w (zr0 w A c ds):=by
 have b:ds.length=n:=by have:=hr.1;rw [vV] at this;omega
 subst b
 exact ziq A c ds w B hr hs hl hc
end Go.Proofs.YtnjljgidphemdaaGreatDoor
