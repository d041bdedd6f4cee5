/- Parts of the proof. -/
import Derived.Test.YthbmhkiphmcogaaGreatDoorMe00
import Init.Data.List.Lemmas
import Derived.Below
import Derived.Deep.AppendLies
import Derived.Deep.Draws
import Derived.Laws.OwnMore
import Derived.Laws.Rows
import Derived.WalkKit
import Derived.BigQuiet
import Derived.Deep.QuietTactic
import Derived.WalkLawsBesides
import Derived.WalkSpells
import Derived.Test.YthbmhkiphmcogaaGreatDoorRows
set_option linter.all false
namespace Go.Proofs.YthbmhkiphmcogaaGreatDoor
open Proofs.Tryz
def val (β:Nat):List Nat->Nat
 | []=>0
 | d :: ds=>d+β*val β ds
def zI (β:Nat) (ds:List Nat):Prop:=∀ d∈ds,d<β
def yW (β:Nat) (ds:List Nat):Prop:=zI β ds/\ds.getLast?≠some 0
theorem Zc (β:Nat):val β []=0:=rfl
theorem YY (β d:Nat) (ds:List Nat):val β (d :: ds)=d+β*val β ds:=rfl
theorem YM (β d:Nat):val β [d]=d:=by simp [val]
theorem Y6 (β:Nat) (a b:List Nat):val β (a ++ b)=val β a+β ^ a.length*val β b:=by
 induction a with
 | nil=>simp [val]
 | cons d a ih=>simp only [List.cons_append,YY,ih,List.length_cons,Nat.pow_succ,Nat.mul_add,Nat.add_assoc];rw [Nat.mul_comm (β ^ a.length) β,Nat.mul_assoc]
theorem Yb (β:Nat) (a:List Nat) (d:Nat):val β (a ++ [d])=val β a+β ^ a.length*d:=by rw [Y6,YM]
theorem zay (β n:Nat):val β (List.replicate n 0)=0:=by
 induction n with
 | zero=>rfl
 | succ n ih=>rw [List.replicate_succ,YY,ih];simp
theorem zI.nil (β:Nat):zI β []:=fun _ h=>by cases h
theorem zI.append {β:Nat} {a b:List Nat} (ha:zI β a) (hb:zI β b):zI β (a ++ b):=fun d h=>by
 rcases List.mem_append.1 h with h | h
 . exact ha d h
 . exact hb d h
theorem zI.cons {β d:Nat} {a:List Nat} (hd:d<β) (ha:zI β a):zI β (d :: a):=fun x h=>by
 rcases List.mem_cons.1 h with h | h
 . omega
 . exact ha x h
theorem zI.tail {β d:Nat} {a:List Nat} (h:zI β (d :: a)):zI β a:=fun x hx=>h x (List.mem_cons_of_mem _ hx)
theorem zI.head {β d:Nat} {a:List Nat} (h:zI β (d :: a)):d<β:=h d List.mem_cons_self
theorem zI.take {β:Nat} {a:List Nat} (h:zI β a) (k:Nat):zI β (a.take k):=fun d hd=>h d (List.mem_of_mem_take hd)
theorem zI.drop {β:Nat} {a:List Nat} (h:zI β a) (k:Nat):zI β (a.drop k):=fun d hd=>h d (List.mem_of_mem_drop hd)
theorem zI.getD {β:Nat} {a:List Nat} (h:zI β a) (hβ:0<β) (k:Nat):a.getD k 0<β:=by
 rw [List.getD_eq_getElem?_getD]
 by_cases b:k<a.length
 . rw [List.getElem?_eq_getElem b];exact h _ (List.getElem_mem b)
 rw [List.getElem?_eq_none (by omega)];exact hβ
theorem zI.get {β:Nat} {a:List Nat} (h:zI β a) (k:Nat) (hk:k<a.length):a[k]<β:=h _ (List.getElem_mem hk)
theorem zI.replicate {β:Nat} (hβ:0<β) (n:Nat):zI β (List.replicate n 0):=fun d hd=>by rw [(List.mem_replicate.1 hd).2];exact hβ
theorem zI.set {β:Nat} {a:List Nat} (h:zI β a) (k d:Nat) (hd:d<β):zI β (a.set k d):=fun x b=>by
 rcases List.mem_or_eq_of_mem_set b with b | b
 . exact h x b
 . omega
theorem Xq {β:Nat} {ds:List Nat} (h:zI β ds):val β ds<β ^ ds.length:=by
 induction ds with
 | nil=>simp [val]
 | cons d ds ih=>
   have b:=ih h.tail;have j:=h.head;rw [YY,List.length_cons,Nat.pow_succ];have e:β*(val β ds+1)<=β*β ^ ds.length:=Nat.mul_le_mul_left _ b;rw [Nat.mul_add,Nat.mul_one] at e;rw [Nat.mul_comm (β ^ ds.length) β]
   omega
theorem xZ (β:Nat) (ds:List Nat) (k:Nat) (hk:k<=ds.length):val β ds=val β (ds.take k)+β ^ k*val β (ds.drop k):=by
 conv=>lhs;rw [<- List.take_append_drop k ds,Y6,List.length_take,Nat.min_eq_left hk]
theorem Vq {α:Type} (ds:List α) (k:Nat) (hk:k<ds.length):ds.take (k+1)=ds.take k ++ [ds[k]]:=by
 rw [List.take_succ_eq_append_getElem hk]
theorem yR (β:Nat) (ds:List Nat) (k:Nat) (hk:k<ds.length):val β (ds.take (k+1))=val β (ds.take k)+β ^ k*ds[k]:=by
 rw [Vq ds k hk,Yb,List.length_take,Nat.min_eq_left (by omega)]
theorem Yu (β:Nat) (ds:List Nat) (k:Nat) (hk:k<ds.length):val β (ds.drop k)=ds[k]+β*val β (ds.drop (k+1)):=by
 rw [List.drop_eq_getElem_cons hk,YY]
theorem yW.nil (β:Nat):yW β []:=⟨zI.nil β,by simp⟩
theorem yW.last {β:Nat} {ds:List Nat} (h:yW β ds) (hne:ds≠[]):ds[ds.length - 1]'(by have:=List.length_pos_iff.2 hne;omega)≠0:=by
 intro b
 apply h.2
 rw [List.getLast?_eq_getElem?,List.getElem?_eq_getElem (by have:=List.length_pos_iff.2 hne;omega),b]
theorem yW.mk_ {β:Nat} {ds:List Nat} (h:zI β ds) (hl:∀ hne:0<ds.length,ds[ds.length - 1]≠0):yW β ds:=by
 refine ⟨h,?_⟩
 intro b
 rw [List.getLast?_eq_getElem?] at b
 obtain ⟨j,e⟩:=List.getElem?_eq_some_iff.1 b
 exact hl (by omega) e
theorem yW.ge {β:Nat} {ds:List Nat} (h:yW β ds) (hne:ds≠[]):β ^ (ds.length - 1)<=val β ds:=by
 have j:=List.length_pos_iff.2 hne
 have b:=h.last hne
 have e:val β ds=val β (ds.take (ds.length - 1))+β ^ (ds.length - 1)*ds[ds.length - 1]:=by
  rw [<- yR β ds (ds.length - 1) (by omega),show ds.length - 1+1=ds.length by omega,List.take_length]
 rw [e]
 have:β ^ (ds.length - 1)*1<=β ^ (ds.length - 1)*ds[ds.length - 1]:=Nat.mul_le_mul_left _ (by omega)
 omega
theorem yW.zero_iff {β:Nat} {ds:List Nat} (hβ:0<β) (h:yW β ds):val β ds=0↔ds=[]:=by
 constructor
 rotate_left
 . rintro rfl;rfl
 intro e
 by_cases b:ds=[]
 . exact b
 have:=h.ge b
 have:=Nat.pow_pos (n:=ds.length - 1) hβ
 omega
theorem yW.lt_of_length {β:Nat} {a b:List Nat} (hβ:0<β) (ha:zI β a) (hb:yW β b) (h:a.length<b.length):val β a<val β b:=by
 have j:=Xq ha
 have m:=hb.ge (by intro e;subst e;simp at h)
 have l:β ^ a.length<=β ^ (b.length - 1):=Nat.pow_le_pow_right hβ (by omega)
 omega
theorem yW.length_le {β:Nat} {a b:List Nat} (hβ:0<β) (ha:yW β a) (hb:yW β b) (h:val β a<=val β b):a.length<=b.length:=by
 rcases Nat.lt_or_ge b.length a.length with e | e
 . have:=yW.lt_of_length hβ hb.1 ha e;omega
 . exact e
theorem yW.length_lt_pow {β:Nat} {a:List Nat} {k:Nat} (hβ:1<β) (ha:yW β a) (h:val β a<β ^ k):a.length<=k:=by
 rcases Nat.lt_or_ge k a.length with b | b
 . have l:=ha.ge (by intro e;subst e;simp at b)
   have j:β ^ k<=β ^ (a.length - 1):=Nat.pow_le_pow_right (by omega) (by omega)
   omega
 . exact b
theorem zvi {β:Nat} {a b:List Nat} (hl:a.length=b.length) (ha:zI β a) (hb:zI β b) (h:val β a=val β b):a=b:=by
 induction a generalizing b with
 | nil=>exact (List.eq_nil_of_length_eq_zero hl.symm).symm
 | cons d a ih=>
   cases b with
   | nil=>simp at hl
   | cons c b=>
     rw [YY,YY] at h;have u:=ha.head;have r:=hb.head
     have m:d=c:=by
      have j:(d+β*val β a) % β=d:=by rw [Nat.add_mul_mod_self_left,Nat.mod_eq_of_lt u]
      have e:(c+β*val β b) % β=c:=by rw [Nat.add_mul_mod_self_left,Nat.mod_eq_of_lt r]
      rw [<- j, <- e,h]
     subst m
     have l:val β a=val β b:=by
      have:β*val β a=β*val β b:=by omega
      exact Nat.eq_of_mul_eq_mul_left (by omega) this
     rw [ih (by simpa using hl) ha.tail hb.tail l]
theorem yW.inj {β:Nat} {a b:List Nat} (hβ:0<β) (ha:yW β a) (hb:yW β b) (h:val β a=val β b):a=b:=
 zvi (Nat.le_antisymm (ha.length_le hβ hb (by omega)) (hb.length_le hβ ha (by omega))) ha.1 hb.1 h
theorem zaj {β:Nat} {a b:List Nat} (hl:a.length=b.length) (ha:zI β a) (k:Nat) (hk:k<a.length)
 (hsame:∀ j (m:j<a.length) (e:j<b.length),k<j->a[j]=b[j]) (hlt:a[k]<b[k]'(by omega)):val β a<val β b:=by
 have l:=xZ β a k (by omega)
 have r:=xZ β b k (by omega)
 rw [Yu β a k hk] at l
 rw [Yu β b k (by omega)] at r
 have u:a.drop (k+1)=b.drop (k+1):=by
  apply List.ext_getElem (by simp [hl])
  intro i m e
  rw [List.getElem_drop,List.getElem_drop]
  exact hsame _ _ _ (by omega)
 rw [u] at l
 have m:val β (a.take k)<β ^ k:=by
  have:=Xq (ha.take k)
  rwa [List.length_take,Nat.min_eq_left (by omega)] at this
 have e:β ^ k*(a[k]+β*val β (b.drop (k+1))+1)<=β ^ k*(b[k]'(by omega)+β*val β (b.drop (k+1))):=Nat.mul_le_mul_left _ (by omega)
 rw [Nat.mul_add _ _ 1,Nat.mul_one] at e
 omega
def digs (β:Nat) (n:Nat):List Nat:=if _h:β<=1\/n=0 then [] else (n % β) :: digs β (n / β)
termination_by n
decreasing_by exact Nat.div_lt_self (by omega) (by omega)
theorem ZH (β:Nat):digs β 0=[]:=by rw [digs];simp
theorem Yc {β n:Nat} (hβ:1<β) (hn:0<n):digs β n=(n % β) :: digs β (n / β):=by rw [digs];rw [dif_neg (by omega)]
theorem YN {β:Nat} (hβ:1<β) (n:Nat):yW β (digs β n)/\val β (digs β n)=n:=by
 induction n using Nat.strongRecOn with
 | _ n ih=>
   by_cases j:n=0
   . subst j;rw [ZH];exact ⟨yW.nil β,rfl⟩
   rw [Yc hβ (by omega)]
   obtain ⟨e,b⟩:=ih (n / β) (Nat.div_lt_self (by omega) hβ);refine ⟨⟨zI.cons (Nat.mod_lt _ (by omega)) e.1,?_⟩,?_⟩
   rotate_left
   . rw [YY,b,Nat.mod_add_div]
   by_cases hd:digs β (n / β)=[]
   rotate_left
   . rw [List.getLast?_cons_of_ne_nil hd]
     exact e.2
   rw [hd] at b |-
   have m:n / β=0:=b.symm
   have l:n<β:=by
    rcases Nat.lt_or_ge n β with h | h
    . exact h
    . have:=Nat.div_pos h (by omega);omega
   rw [Nat.mod_eq_of_lt l]
   simpa using j
theorem yW.digs {β:Nat} {ds:List Nat} (hβ:1<β) (h:yW β ds):digs β (val β ds)=ds:=
 yW.inj (by omega) (YN hβ _).1 h (YN hβ _).2
def len (β n:Nat):Nat:=(digs β n).length
theorem yW.length_eq {β:Nat} {ds:List Nat} (hβ:1<β) (h:yW β ds):ds.length=len β (val β ds):=by rw [len,h.digs hβ]
theorem vy {β:Nat} (hβ:1<β) (n:Nat):n<β ^ len β n:=by
 have h:=YN hβ n
 have:=Xq h.1.1
 rwa [h.2] at this
theorem yv {β n k:Nat} (hβ:1<β) (h:n<β ^ k):len β n<=k:=by
 have b:=YN hβ n
 exact b.1.length_lt_pow hβ (by rw [b.2];exact h)
theorem vI {β m n:Nat} (hβ:1<β) (h:m<=n):len β m<=len β n:=yv hβ (Nat.lt_of_le_of_lt h (vy hβ n))
theorem VS {β:Nat} (hβ:1<β) (m n:Nat):len β (m*n)<=len β m+len β n:=by
 apply yv hβ
 rw [Nat.pow_add]
 exact Nat.mul_lt_mul'' (vy hβ m) (vy hβ n)
theorem zox {β:Nat} (hβ:1<β) (m n:Nat):len β (m+n)<=max (len β m) (len β n)+1:=by
 apply yv hβ
 rw [Nat.pow_succ]
 have j:=vy hβ m
 have e:=vy hβ n
 have b:β ^ len β m<=β ^ max (len β m) (len β n):=Nat.pow_le_pow_right (by omega) (by omega)
 have l:β ^ len β n<=β ^ max (len β m) (len β n):=Nat.pow_le_pow_right (by omega) (by omega)
 have r:β ^ max (len β m) (len β n)*2<=β ^ max (len β m) (len β n)*β:=Nat.mul_le_mul_left _ hβ
 omega
theorem Vz (β:Nat):len β 0=0:=by rw [len,ZH];rfl
theorem zbt {β n:Nat} (hβ:1<β) (h:0<n):0<len β n:=by rw [len,Yc hβ h];simp
theorem zm6 {β v1 v2 u2 top d r p ul vl u v:Nat} (ht:top=d*v1+r) (hu:u=(top*β+u2)*p+ul) (hv:v=(v1*β+v2)*p+vl) (hul:ul<p) (hlt:u<β*v)
 (h:β<=d\/r*β+u2<d*v2):u / v<d:=by
 have b:0<v:=by
  rcases Nat.eq_zero_or_pos v with e | e
  . rw [e] at hlt;simp at hlt
  . exact e
 rcases h with h | h
 . have:=(Nat.div_lt_iff_lt_mul b).2 hlt
   omega
 . rw [Nat.div_lt_iff_lt_mul b]
   have j:top*β+u2+1<=d*(v1*β+v2):=by
    rw [ht,Nat.add_mul,Nat.mul_add,Nat.mul_assoc];omega
   have m:(top*β+u2+1)*p<=d*(v1*β+v2)*p:=Nat.mul_le_mul_right _ j;rw [Nat.add_mul _ 1 p,Nat.one_mul] at m;have l:d*v=d*(v1*β+v2)*p+d*vl:=by rw [hv,Nat.mul_add,Nat.mul_assoc]
   rw [l,hu]
   omega
theorem znt {β v1 v2 u2 top d r p ul vl u v:Nat} (ht:top=d*v1+r) (hu:u=(top*β+u2)*p+ul) (hv:v=(v1*β+v2)*p+vl) (hvl:vl<p) (hlt:u<β*v)
 (hv1:1<=v1) (h:d*v2<=r*β+u2):d<=u / v+1:=by
 have b:0<v:=by
  rcases Nat.eq_zero_or_pos v with e | e
  . rw [e] at hlt;simp at hlt
  . exact e
 have D:u / v<β:=(Nat.div_lt_iff_lt_mul b).2 hlt
 rcases Nat.lt_or_ge (u / v+1) d with hd | hd
 . exfalso
   have m:d*(v1*β+v2)<=top*β+u2:=by
    rw [ht,Nat.add_mul,Nat.mul_add,Nat.mul_assoc];omega
   have B:d*(v1*β+v2)*p<=(top*β+u2)*p:=Nat.mul_le_mul_right _ m
   have z:u<(u / v+1)*v:=by
    have:=Nat.div_add_mod u v;have:=Nat.mod_lt u b;rw [Nat.add_mul,Nat.one_mul,Nat.mul_comm]
    omega
   have E:(u / v+1)*v<=(u / v+1)*((v1*β+v2+1)*p):=by
    apply Nat.mul_le_mul_left
    rw [hv,Nat.add_mul _ 1 p,Nat.one_mul];omega
   have y:d*(v1*β+v2)*p<(u / v+1)*(v1*β+v2+1)*p:=by
    rw [Nat.mul_assoc (u / v+1)];omega
   have j:d*(v1*β+v2)<(u / v+1)*(v1*β+v2+1):=Nat.lt_of_mul_lt_mul_right y;have l:(u / v+1+1)*(v1*β+v2)<=d*(v1*β+v2):=Nat.mul_le_mul_right _ (by omega);rw [Nat.add_mul (u / v+1) 1,Nat.one_mul] at l;rw [Nat.mul_add (u / v+1) _ 1,Nat.mul_one] at j;have C:1*β<=v1*β:=Nat.mul_le_mul_right _ hv1
   omega
 . exact hd
theorem zjp {β v1 um un d r:Nat} (hv1:β<=2*v1) (hum:um<=v1) (hun:un<β) (hd:um*β+un=d*v1+r) (hr:r<v1):d<=β+1:=by
 rcases Nat.lt_or_ge (β+1) d with h | h
 . exfalso
   have b:(β+2)*v1<=d*v1:=Nat.mul_le_mul_right _ (by omega);have e:um*β<=v1*β:=Nat.mul_le_mul_right _ hum;rw [Nat.add_mul,Nat.mul_comm β v1] at b
   omega
 . exact h
theorem zi4 {β v2 u2 d r:Nat} (hv2:v2<β) (hd:d<=β) (hr:β<=r):d*v2<=r*β+u2:=by
 have b:d*v2<=β*v2:=Nat.mul_le_mul_right _ hd
 have j:β*v2<=β*β:=Nat.mul_le_mul_left _ (by omega)
 have e:β*β<=r*β:=Nat.mul_le_mul_right _ hr
 omega
theorem zd4 {u v d u' B:Nat} (hd1:u / v<=d) (hd2:d<=u / v+1) (hv:0<v) (h:u' +d*v=u+0*B):d=u / v/\u' =u % v:=by
 have j:=Nat.div_add_mod u v
 have l:=Nat.mod_lt u hv
 rw [Nat.zero_mul,Nat.add_zero] at h
 have e:d=u / v:=by
  rcases Nat.lt_or_ge (u / v) d with b | b
  . have e:d=u / v+1:=by omega
    rw [e,Nat.add_mul,Nat.one_mul,Nat.mul_comm] at h
    omega
  . omega
 refine ⟨e,?_⟩
 rw [e,Nat.mul_comm] at h
 omega
theorem zii {u v d u' B:Nat} (hd1:u / v<=d) (hd2:d<=u / v+1) (hv:0<v) (hB:u' <B) (h:u' +d*v=u+1*B):d=u / v+1/\u' +v=u % v+B:=by
 have j:=Nat.div_add_mod u v
 have l:=Nat.mod_lt u hv
 rw [Nat.one_mul] at h
 have e:d=u / v+1:=by
  rcases Nat.lt_or_ge (u / v) d with b | b
  . omega
  . have e:d=u / v:=by omega
    rw [e,Nat.mul_comm] at h
    omega
 refine ⟨e,?_⟩
 rw [e,Nat.add_mul,Nat.one_mul,Nat.mul_comm] at h
 omega
theorem zr6 {β lo un cy bo d x y s bo' P:Nat} (hβ:0<β) (hs:s+y+bo=x+bo' *β) (hy:y=(cy+d*un) % β) {L O:Nat} (hL:L+d*lo=O+(cy+bo)*P):
 (L+P*s)+d*(lo+P*un)=(O+P*x)+((cy+d*un) / β+bo')*(P*β):=by
 have b:=Nat.div_add_mod (cy+d*un) β
 rw [<- hy] at b
 have j:P*(s+y+bo)=P*(x+bo' *β):=by rw [hs]
 have e:P*(cy+d*un)=P*(β*((cy+d*un) / β)+y):=by rw [b]
 generalize (cy+d*un) / β=q at*
 simp only [Nat.mul_add,Nat.add_mul,Nat.mul_assoc,Nat.mul_comm,Nat.mul_left_comm] at j e hL |-
 omega
theorem zjx {β v1 v2 u2 top p ul vl u v:Nat} (hu:u=(top*β+u2)*p+ul) (hv:v=(v1*β+v2)*p+vl) (hu2:u2<β) (hul:ul<p) (hv1:0<v1):u / v<=top / v1:=by
 rw [Nat.le_div_iff_mul_le hv1]
 have l:u<(top+1)*(β*p):=by
  have b:(top*β+u2+1)*p<=(top+1)*β*p:=Nat.mul_le_mul_right _ (by rw [Nat.add_mul,Nat.one_mul];omega)
  rw [Nat.add_mul _ 1,Nat.one_mul] at b
  rw [hu, <- Nat.mul_assoc];omega
 have j:u / v*v<=u:=Nat.div_mul_le_self u v
 have m:u / v*(v1*(β*p))<=u / v*v:=by
  apply Nat.mul_le_mul_left
  rw [hv,Nat.add_mul,Nat.mul_assoc];omega
 have e:u / v*v1*(β*p)<(top+1)*(β*p):=by rw [Nat.mul_assoc];omega
 have:=Nat.lt_of_mul_lt_mul_right e
 omega
theorem zrb {β v1 v2 um un u2 p ul vl u v:Nat} (hu:u=((um*β+un)*β+u2)*p+ul) (hv:v=(v1*β+v2)*p+vl) (hv2:v2<β) (hvl:vl<p) (hlt:u<β*v):um<=v1:=by
 rcases Nat.lt_or_ge v1 um with h | h
 . exfalso
   have m:v<(v1+1)*(β*p):=by
    have b:(v1*β+v2+1)*p<=(v1+1)*β*p:=Nat.mul_le_mul_right _ (by rw [Nat.add_mul,Nat.one_mul];omega);rw [Nat.add_mul _ 1,Nat.one_mul] at b;rw [hv, <- Nat.mul_assoc];omega
   have j:(v1+1)*(β*p)<=um*(β*p):=Nat.mul_le_mul_right _ h;have r:β*v<=β*(um*(β*p)):=Nat.mul_le_mul_left _ (by omega)
   have y:β*(um*(β*p))<=u:=by
    have e:β*(um*(β*p))=um*β*β*p:=by simp only [Nat.mul_assoc,Nat.mul_comm,Nat.mul_left_comm]
    have l:um*β*β*p<=((um*β+un)*β+u2)*p:=Nat.mul_le_mul_right _ (by rw [Nat.add_mul];omega);rw [e,hu];omega
   omega
 . exact h
theorem zv {ds:List Nat} {k:Nat} (hk:k<ds.length):ds.getD k 0=ds[k]:=by
 rw [List.getD_eq_getElem?_getD,List.getElem?_eq_getElem hk];rfl
theorem xq {ds:List Nat} {k:Nat} (hk:ds.length<=k):ds.getD k 0=0:=by
 rw [List.getD_eq_getElem?_getD,List.getElem?_eq_none hk];rfl
theorem zO (β:Nat) (ds:List Nat) (k:Nat):val β (ds.take (k+1))=val β (ds.take k)+β ^ k*ds.getD k 0:=by
 rcases Nat.lt_or_ge k ds.length with h | h
 . rw [zv h,yR β ds k h]
 . rw [xq h,List.take_of_length_le (by omega),List.take_of_length_le h];simp
theorem zjw (β:Nat) (ds:List Nat) (k d:Nat) (hk:k<ds.length):val β (ds.set k d)+β ^ k*ds[k]=val β ds+β ^ k*d:=by
 have e:=xZ β ds k (by omega)
 have b:=xZ β (ds.set k d) k (by simp;omega)
 rw [Yu β ds k hk] at e
 rw [Yu β (ds.set k d) k (by simpa using hk)] at b
 have l:(ds.set k d).take k=ds.take k:=by rw [List.take_set_of_le (by omega)]
 have j:(ds.set k d).drop (k+1)=ds.drop (k+1):=by rw [List.drop_set_of_lt (by omega)]
 rw [l,j] at b
 simp only [List.getElem_set_self] at b
 rw [e,b,Nat.mul_add,Nat.mul_add];omega
theorem zf0 {β i D A B c x y:Nat} (h:D+c*β ^ i=A+B):(D+β ^ i*((c+x+y) % β))+(c+x+y) / β*β ^ (i+1)=(A+β ^ i*x)+(B+β ^ i*y):=by
 have b:=Nat.div_add_mod (c+x+y) β
 have e:β ^ i*(c+x+y)=β ^ i*(β*((c+x+y) / β)+(c+x+y) % β):=by rw [b]
 generalize (c+x+y) / β=q at*
 generalize (c+x+y) % β=r at*
 rw [Nat.pow_succ]
 simp only [Nat.mul_add,Nat.add_mul,Nat.mul_assoc,Nat.mul_comm,Nat.mul_left_comm] at e h |-
 omega
theorem zpx {β i D A B b x y s b' :Nat} (h:D+B=A+b*β ^ i) (hs:s+y+b=x+b' *β):(D+β ^ i*s)+(B+β ^ i*y)=(A+β ^ i*x)+b' *β ^ (i+1):=by
 have e:β ^ i*(s+y+b)=β ^ i*(x+b' *β):=by rw [hs]
 rw [Nat.pow_succ]
 simp only [Nat.mul_add,Nat.add_mul,Nat.mul_assoc,Nat.mul_comm,Nat.mul_left_comm] at e h |-
 omega
theorem zlq {β P k O O' c x y o Y Z:Nat} (h:O+c*(P*β ^ k)=Z+x*P*Y) (hs:O' +P*β ^ k*o=O+P*β ^ k*((c+x*y+o) % β)):
 O' +(c+x*y+o) / β*(P*β ^ (k+1))=Z+x*P*(Y+β ^ k*y):=by
 have b:=Nat.div_add_mod (c+x*y+o) β
 have e:P*β ^ k*(c+x*y+o)=P*β ^ k*(β*((c+x*y+o) / β)+(c+x*y+o) % β):=by rw [b]
 generalize (c+x*y+o) / β=q at*
 generalize (c+x*y+o) % β=r at*
 rw [Nat.pow_succ]
 simp only [Nat.mul_add,Nat.add_mul,Nat.mul_assoc,Nat.mul_comm,Nat.mul_left_comm] at e h hs |-
 omega
theorem zh9 {β c x y o:Nat} (hc:c<β) (hx:x<β) (hy:y<β) (ho:o<β):c+x*y+o<β*β:=by
 have b:x*y<=(β - 1)*(β - 1):=Nat.mul_le_mul (by omega) (by omega)
 obtain ⟨g,rfl⟩:∃ g,β=g+1:=⟨β - 1,by omega⟩
 simp only [Nat.add_sub_cancel] at b
 rw [Nat.add_mul,Nat.mul_add]
 omega
theorem zk3 {β d x r:Nat} (hd:0<d) (hr:r<d) (hx:x<β):(r*β+x) / d<β/\(r*β+x) % d<d:=by
 refine ⟨(Nat.div_lt_iff_lt_mul hd).2 ?_,Nat.mod_lt _ hd⟩
 have:(r+1)*β<=d*β:=Nat.mul_le_mul_right _ (by omega)
 rw [Nat.add_mul,Nat.one_mul] at this
 rw [Nat.mul_comm β d]
 omega
theorem zus {β d x r Q A:Nat} (h:A=Q*d+r):x+β*A=((r*β+x) / d+β*Q)*d+(r*β+x) % d:=by
 have b:=Nat.div_add_mod (r*β+x) d
 have e:(r*β+x) / d*d+(r*β+x) % d=r*β+x:=by rw [Nat.mul_comm];exact b
 rw [h,Nat.add_mul]
 simp only [Nat.mul_add,Nat.add_mul,Nat.mul_assoc,Nat.mul_comm,Nat.mul_left_comm] at e |-
 omega
theorem Vj (β:Nat) (ds:List Nat) (k d:Nat) (hk:k<ds.length):val β ((ds.set k d).drop k)=d+β*val β (ds.drop (k+1)):=by
 rw [Yu β (ds.set k d) k (by simpa using hk),List.drop_set_of_lt (by omega)]
 simp only [List.getElem_set_self]
theorem zvm {β s i D A x:Nat} {o:Nat} (h:D+β ^ i*o=A*s):(D+β ^ i*(o+x*s % β))+β ^ (i+1)*(x*s / β)=(A+β ^ i*x)*s:=by
 have b:=Nat.div_add_mod (x*s) β
 have e:β ^ i*(x*s)=β ^ i*(β*(x*s / β)+x*s % β):=by rw [b]
 generalize x*s / β=q at*
 generalize x*s % β=r at*
 rw [Nat.pow_succ,Nat.add_mul]
 simp only [Nat.mul_add,Nat.add_mul,Nat.mul_assoc,Nat.mul_comm,Nat.mul_left_comm] at e h |-
 omega
theorem zic {n a b:Nat} (hb:b<2 ^ n):(2 ^ n*a) ||| b=2 ^ n*a+b:=(Nat.two_pow_add_eq_or_of_lt hb a).symm
theorem zbo {n a b:Nat} (hb:b<2 ^ n):b ||| (2 ^ n*a)=b+2 ^ n*a:=by rw [Nat.or_comm,zic hb,Nat.add_comm]
theorem zkn {s t x:Nat} (hs:0<s):x*s % (s*t)=s*(x % t):=by rw [Nat.mul_comm x s,Nat.mul_mod_mul_left]
theorem zpt {s t i A x:Nat} (hs:0<s) (ht:0<t):(A+(s*t) ^ (i+1)*x) / s=A / s+(s*t) ^ i*(t*x):=by
 have e:(s*t) ^ (i+1)*x=s*((s*t) ^ i*(t*x)):=by
  rw [Nat.pow_succ];simp only [Nat.mul_assoc,Nat.mul_comm,Nat.mul_left_comm]
 rw [e,Nat.add_mul_div_left _ _ hs]
theorem zme {s t x:Nat} (ht:0<t):t*x=t*(x % s)+s*t*(x / s):=by
 conv=>lhs;rw [<- Nat.mod_add_div x s]
 rw [Nat.mul_add]
 simp only [Nat.mul_assoc,Nat.mul_comm,Nat.mul_left_comm]
def chr (d:Nat):UInt8:=UInt8.ofNat (48+d)
def dig (c:UInt8):Nat:=c.toNat - 48
def xu (c:UInt8):Bool:=decide (48<=c.toNat) && decide (c.toNat<=57)
def xG (l:List UInt8):Bool:=l.all xu && !l.isEmpty
def zH (l:List UInt8):Nat:=l.foldl (fun n c=>10*n+dig c) 0
def dec (n:Nat):List UInt8:=if n=0 then [48] else (digs 10 n).reverse.map chr
theorem zuh {d:Nat} (h:d<10):dig (chr d)=d:=by
 unfold dig chr
 rw [UInt8.toNat_ofNat']
 have:(48+d) % 2 ^ 8=48+d:=Nat.mod_eq_of_lt (by omega)
 omega
theorem zos {d:Nat} (h:d<10):xu (chr d)=true:=by
 unfold xu chr
 rw [UInt8.toNat_ofNat']
 have:(48+d) % 2 ^ 8=48+d:=Nat.mod_eq_of_lt (by omega)
 simp [this];omega
theorem zf1 {c:UInt8} (h:xu c=true):chr (dig c)=c:=by
 simp [xu] at h
 unfold chr dig
 apply UInt8.toNat_inj.1
 rw [UInt8.toNat_ofNat']
 have:c.toNat<2 ^ 8:=UInt8.toNat_lt c
 have:(48+(c.toNat - 48)) % 2 ^ 8=48+(c.toNat - 48):=Nat.mod_eq_of_lt (by omega)
 omega
theorem ztk {c:UInt8} (h:xu c=true):dig c<10:=by
 simp [xu] at h;unfold dig;omega
theorem zhb {d:Nat} (h:d<10):(chr d).toNat=48+d:=by
 unfold chr;rw [UInt8.toNat_ofNat'];exact Nat.mod_eq_of_lt (by omega)
theorem zfi:zH []=0:=rfl
theorem zcb (l:List UInt8):∀ n:Nat,l.foldl (fun n c=>10*n+dig c) n=n*10 ^ l.length+zH l:=by
 induction l with
 | nil=>intro n;simp [zH]
 | cons c l ih=>
   intro n
   have e:zH (c :: l)=(10*0+dig c)*10 ^ l.length+zH l:=by
    show List.foldl (fun n c=>10*n+dig c) (10*0+dig c) l=_
    exact ih _
   rw [List.foldl_cons,ih,e,List.length_cons,Nat.pow_succ];simp only [Nat.mul_add,Nat.add_mul,Nat.mul_assoc,Nat.mul_comm,Nat.mul_left_comm,Nat.mul_zero,Nat.zero_add]
   omega
theorem X3 (a b:List UInt8):zH (a ++ b)=zH a*10 ^ b.length+zH b:=by
 rw [zH,List.foldl_append,zcb b];rfl
theorem zj4 (a:List UInt8) (c:UInt8):zH (a ++ [c])=10*zH a+dig c:=by
 rw [X3];simp [zH];omega
theorem zd8 (c:UInt8) (l:List UInt8):zH (c :: l)=dig c*10 ^ l.length+zH l:=by
 rw [zH,List.foldl_cons,zcb];simp
theorem Xz (l:List UInt8):zH l=val 10 (l.reverse.map dig):=by
 induction l with
 | nil=>rfl
 | cons c l ih=>rw [zd8,List.reverse_cons,List.map_append,Y6,ih];simp [val];rw [Nat.mul_comm];omega
theorem Vi {l:List UInt8} (h:l.all xu=true):zH l<10 ^ l.length:=by
 rw [Xz]
 have b:zI 10 (l.reverse.map dig):=by
  intro d hd
  simp at hd
  obtain ⟨c,e,rfl⟩:=hd
  exact ztk (List.all_eq_true.1 h c e)
 simpa using Xq b
theorem ze5 (n:Nat):zI 10 (digs 10 n):=(YN (by omega) n).1.1
theorem zdu (n:Nat):(dec n).all xu=true:=by
 unfold dec
 split
 . rfl
 rw [List.all_eq_true]
 intro c b;simp only [List.mem_map,List.mem_reverse] at b;obtain ⟨d,hd,rfl⟩:=b;exact zos (ze5 n d hd)
theorem zv7 (n:Nat):dec n≠[]:=by
 unfold dec
 split
 . simp
 rename_i h
 rw [Yc (by omega) (by omega)];simp
theorem V0 (n:Nat):xG (dec n)=true:=by
 unfold xG;rw [zdu];simp [zv7]
theorem Z4 (n:Nat):zH (dec n)=n:=by
 unfold dec
 split
 . rename_i h;subst h;decide
 rw [Xz, <- List.map_reverse,List.reverse_reverse,List.map_map]
 have e:(digs 10 n).map (dig ∘ chr)=digs 10 n:=by
  have:∀ l:List Nat,zI 10 l->l.map (dig ∘ chr)=l:=by
   intro l
   induction l with
   | nil=>intro _;rfl
   | cons d l ih=>intro h;rw [List.map_cons,ih h.tail];simp [zuh h.head]
  exact this _ (ze5 n)
 rw [e];exact (YN (by omega) n).2
theorem zi9 {m n:Nat} (h:dec m=dec n):m=n:=by rw [<- Z4 m,h,Z4]
theorem vO:dec 0=[48]:=by simp [dec]
theorem zro (n:Nat) (hn:n≠0):∀ c,(dec n).head?=some c->c≠48:=by
 intro c b
 unfold dec at b
 rw [if_neg hn,List.head?_map,List.head?_reverse] at b
 have j:=YN (β:=10) (by omega) n
 cases hl:(digs 10 n).getLast? with
 | none=>rw [hl] at b;cases b
 | some d=>
   rw [hl] at b;simp at b;subst b;have l:d<10:=j.1.1 d (List.mem_of_getLast? hl);have m:d≠0:=fun e=>j.1.2 (by rw [hl,e])
   intro e;have:=congrArg UInt8.toNat e;rw [zhb l] at this;simp at this
   omega
theorem znd {l:List UInt8} (h:xG l=true) (b:l.head?≠some 48\/l.length=1):dec (zH l)=l:=by
 simp [xG] at h
 obtain ⟨u,z⟩:=h
 have C:zI 10 (l.reverse.map dig):=by
  intro d hd
  simp at hd
  obtain ⟨c,m,rfl⟩:=hd
  exact ztk (u c m)
 have B:∀ l:List UInt8,(∀ c∈l,xu c=true)->l.map (chr ∘ dig)=l:=by
  intro l
  induction l with
  | nil=>intro _;rfl
  | cons c l ih=>intro h;rw [List.map_cons,ih (fun c m=>h c (List.mem_cons_of_mem _ m))];simp [zf1 (h c List.mem_cons_self)]
 by_cases r:zH l=0
 rotate_left
 . have m:yW 10 (l.reverse.map dig):=by
    refine ⟨C,?_⟩;rw [List.getLast?_map,List.getLast?_reverse]
    cases l with
    | nil=>exact absurd rfl z
    | cons c l=>
      simp only [List.head?_cons,Option.map_some];intro e;injection e with e
      have j:=zf1 (u c List.mem_cons_self);rw [e] at j
      rcases b with b | b
      . apply b;rw [<- j];rfl
      . have:l=[]:=List.eq_nil_of_length_eq_zero (by simpa using b)
        subst this
        apply r
        simp [zH,e]
   unfold dec;rw [if_neg r,Xz,m.digs (by omega), <- List.map_reverse,List.reverse_reverse,List.map_map,B l u]
 unfold dec
 rw [if_pos r]
 rcases b with b | b
 . exfalso
   cases l with
   | nil=>exact z rfl
   | cons c l=>
     simp at b;rw [zd8] at r;have m:=u c List.mem_cons_self
     have y:dig c=0:=by
      rcases Nat.eq_zero_or_pos (dig c) with e | e
      . exact e
      . have:=Nat.mul_pos e (Nat.pow_pos (n:=l.length) (show 0<10 by omega));omega
     have j:=zf1 m;rw [y] at j;exact b j.symm
 . match l,b with
   | [c],_=>
     have y:dig c=0:=by simpa [zH] using r
     have j:=zf1 (u c List.mem_cons_self);rw [y] at j;rw [<- j];rfl
theorem zew (n:Nat) (hn:n≠0):(dec n).length=len 10 n:=by unfold dec;rw [if_neg hn];simp [len]
theorem XO {n k:Nat} (h:n<10 ^ k) (hk:0<k):(dec n).length<=k:=by
 by_cases b:n=0
 . subst b;rw [vO];exact hk
 rw [zew n b];exact yv (by omega) h
theorem Yk {n k:Nat} (h:(dec n).length<=k):n<10 ^ k:=by
 have b:=Vi (zdu n)
 rw [Z4] at b
 exact Nat.lt_of_lt_of_le b (Nat.pow_le_pow_right (by omega) h)
theorem ZQ {β n:Nat} (hβ:10<=β):len β n<=(dec n).length:=by
 apply yv (by omega)
 exact Nat.lt_of_lt_of_le (Yk (Nat.le_refl _)) (Nat.pow_le_pow_left hβ _)
theorem zp4 {n m:Nat} {b:List Nat} (h:b ++ digs 10 m=digs 10 n) (hm:0<m):(b ++ [m % 10]) ++ digs 10 (m / 10)=digs 10 n:=by
 rw [<- h,Yc (by omega) hm];simp
def zw (q:Rat):List UInt8:=(if q.num<0 then [45] else []) ++ dec q.num.natAbs ++ (if q.den=1 then [] else 47 :: dec q.den)
def yo (M:Nat) (q:Rat):Prop:=(dec q.num.natAbs).length<=M/\(dec q.den).length<=M
instance (M:Nat) (q:Rat):Decidable (yo M q):=inferInstanceAs (Decidable (_/\_))
def zip (l:List UInt8) (q:Rat):Prop:=l=zw q/\yo 50000 q
def yO (l:List UInt8):Bool:=l.head? == some 45
def zq (l:List UInt8):List UInt8:=if yO l then l.tail else l
def ahead (c:UInt8) (l:List UInt8):List UInt8:=l.takeWhile (· != c)
def yt (c:UInt8) (l:List UInt8):List UInt8:=(l.dropWhile (· != c)).tail
def has (c:UInt8) (l:List UInt8):Bool:=l.contains c
def vj (neg:Bool) (n d:Nat):Rat:=Rat.divInt (if neg then -(n:Int) else n) d
theorem Xv {neg:Bool} {n d:Nat} (hc:Nat.Coprime n d) (hd:d≠0):(vj neg n d).num=(if neg then -(n:Int) else n)/\(vj neg n d).den=d:=by
 have b :Nat.Coprime (if neg then -(n:Int) else n).natAbs d:=by cases neg<;>simpa using hc
 have e:vj neg n d=⟨if neg then -(n:Int) else n,d,hd,b⟩:=by rw [Rat.mk_eq_divInt];rfl
 rw [e];exact ⟨rfl,rfl⟩
theorem XQ {l:List UInt8} (h:l.all xu=true) {c:UInt8} (hc:xu c=false):∀ x∈l,(x != c)=true:=by
 intro x e
 have b:=List.all_eq_true.1 h x e
 rw [bne_iff_ne]
 rintro rfl
 rw [b] at hc;cases hc
theorem VH:xu 47=false:=by decide
theorem zj3:xu 45=false:=by decide
theorem zak {l t:List UInt8} {p:UInt8->Bool} (h:∀ x∈l,p x=true):(l ++ t).takeWhile p=l ++ t.takeWhile p:=by
 induction l with
 | nil=>rfl
 | cons c l ih=>simp [List.takeWhile_cons,h c List.mem_cons_self,ih (fun x hx=>h x (List.mem_cons_of_mem _ hx))]
theorem zfu {l t:List UInt8} {p:UInt8->Bool} (h:∀ x∈l,p x=true):(l ++ t).dropWhile p=t.dropWhile p:=by
 induction l with
 | nil=>rfl
 | cons c l ih=>simp [List.dropWhile_cons,h c List.mem_cons_self,ih (fun x hx=>h x (List.mem_cons_of_mem _ hx))]
theorem zou {c:UInt8} {l:List UInt8} (h:l.all xu=true) (hc:xu c=false) (t:List UInt8):ahead c (l ++ c :: t)=l:=by
 unfold ahead
 rw [zak (XQ h hc)];simp [List.takeWhile_cons]
theorem zmw {c:UInt8} {l:List UInt8} (h:l.all xu=true) (hc:xu c=false) (t:List UInt8):yt c (l ++ c :: t)=t:=by
 unfold yt
 rw [zfu (XQ h hc)];simp [List.dropWhile_cons]
theorem zvd (c:UInt8) (l t:List UInt8):has c (l ++ c :: t)=true:=by unfold has;simp
theorem Vy {c:UInt8} {l:List UInt8} (h:has c l=false):ahead c l=l:=by
 unfold has at h;unfold ahead
 have b :c ∉ l:=by simpa using h
 have:=zak (l:=l) (t:=[]) (p:=(· != c)) (by
  intro a e
  rw [bne_iff_ne]
  rintro rfl
  exact b e)
 simpa using this
theorem znl {c:UInt8} {l:List UInt8} (h:l.all xu=true) (hc:xu c=false):has c l=false:=by
 unfold has
 rw [Bool.eq_false_iff]
 intro b
 have e:=List.contains_iff_mem.1 b
 have:=List.all_eq_true.1 h c e
 rw [this] at hc;cases hc
theorem znu {c:UInt8} {l:List UInt8} (h:has c l=true):l=ahead c l ++ c :: yt c l:=by
 unfold has at h;unfold ahead yt
 have b:c∈l:=List.contains_iff_mem.1 h
 have e:(l.dropWhile (· != c)).head?=some c:=by
  cases hd:l.dropWhile (· != c) with
  | nil=>
    have j:=List.takeWhile_append_dropWhile (p:=(· != c)) (l:=l);rw [hd,List.append_nil] at j;rw [<- j] at b;have:=List.all_eq_true.1 (List.all_takeWhile (p:=(· != c)) (l:=l)) c b;simp at this
  | cons a t=>
    have:=List.head?_dropWhile_not (· != c) l;rw [hd] at this;simp at this;rw [this];rfl
 cases hd:l.dropWhile (· != c) with
 | nil=>rw [hd] at e;cases e
 | cons a t=>
   rw [hd] at e;injection e with e
   subst e;have:=List.takeWhile_append_dropWhile (p:=(· != a)) (l:=l);rw [hd] at this;exact this.symm
theorem YU {l:List UInt8} (h:yO l=false):zq l=l:=by unfold zq;rw [h];rfl
theorem Vh {l:List UInt8} (h:yO l=true):l=45 :: zq l:=by
 unfold zq;rw [h]
 unfold yO at h
 cases l with
 | nil=>simp at h
 | cons c l=>simp at h;subst h;rfl
theorem zuo (l:List UInt8):l=(if yO l then [45] else []) ++ zq l:=by
 by_cases h:yO l=true
 . rw [if_pos h];exact Vh h
 rw [if_neg h,YU (by simpa using h)];rfl
theorem zf5 {l t:List UInt8} (h:xG l=true):yO (l ++ t)=false:=by
 simp [xG] at h
 unfold yO
 cases l with
 | nil=>simp at h
 | cons c l=>
   have b:=h.1 c List.mem_cons_self
   simp
   rintro rfl
   simp [zj3] at b
theorem zgg {l:List UInt8} {q:Rat} (h:l=zw q):yO l=decide (q.num<0)/\ahead 47 (zq l)=dec q.num.natAbs/\has 47 (zq l)=decide (q.den≠1)/\
 (q.den≠1->yt 47 (zq l)=dec q.den):=by
 have m:yO (dec q.num.natAbs ++ (if q.den=1 then [] else 47 :: dec q.den))=false:=zf5 (V0 _)
 have e:yO l=decide (q.num<0):=by
  rw [h,zw,List.append_assoc]
  by_cases b:q.num<0
  . rw [if_pos b];simp [yO,b]
  rw [if_neg b,List.nil_append,m];simp [b]
 have hu:zq l=dec q.num.natAbs ++ (if q.den=1 then [] else 47 :: dec q.den):=by
  by_cases b:q.num<0
  rotate_left
  . rw [YU (by rw [e];simpa using b),h,zw,if_neg b,List.nil_append]
  have:=Vh (l:=l) (by rw [e];simpa using b)
  rw [h,zw,if_pos b] at this;simp only [List.cons_append,List.nil_append,List.cons.injEq,true_and] at this;rw [h,zw,if_pos b];simp only [List.cons_append,List.nil_append];rw [<- this]
 refine ⟨e,?_⟩
 rw [hu]
 by_cases hd:q.den=1
 . rw [if_pos hd,List.append_nil]
   have j:=znl (zdu q.num.natAbs) VH;refine ⟨Vy j,?_,fun h=>absurd hd h⟩;rw [j];simp [hd]
 rw [if_neg hd]
 exact ⟨zou (zdu _) VH _,by rw [zvd];simp [hd],fun _=>zmw (zdu _) VH _⟩
def yk (l:List UInt8):Bool:=xG l && (l.head? != some 48 || l.length == 1) && decide (l.length<=50000)
theorem zha {n:Nat} (h:(dec n).length<=50000):yk (dec n)=true:=by
 unfold yk
 rw [V0]
 by_cases b:n=0
 . subst b;rw [vO];decide
 have e:((dec n).head? != some 48)=true:=by
  rw [bne_iff_ne];intro j;exact zro n b 48 j rfl
 rw [e];simp [h]
theorem Y4 {l:List UInt8} (h:yk l=true):dec (zH l)=l/\l.length<=50000/\xG l=true:=by
 unfold yk at h
 simp only [Bool.and_eq_true,Bool.or_eq_true,bne_iff_ne,ne_eq,beq_iff_eq,decide_eq_true_eq] at h
 exact ⟨znd h.1.1 h.1.2,h.2,h.1.1⟩
theorem zah {l:List UInt8} (hn:yk (ahead 47 (zq l))=true) (h0:yO l=true->ahead 47 (zq l)≠[48])
 (hd:has 47 (zq l)=true->yk (yt 47 (zq l))=true/\yt 47 (zq l)≠[48]/\yt 47 (zq l)≠[49]/\
   Nat.Coprime (zH (ahead 47 (zq l))) (zH (yt 47 (zq l)))):
 zip l (vj (yO l) (zH (ahead 47 (zq l))) (if has 47 (zq l) then zH (yt 47 (zq l)) else 1)):=by
 obtain ⟨e,l1,_⟩:=Y4 hn
 have z:=zuo l
 generalize N:yO l=s at*
 generalize hu:zq l=u at*
 have B:s=true->zH (ahead 47 u)≠0:=by
  intro D h
  rw [h,vO] at e
  exact h0 D e.symm
 by_cases y:has 47 u=true
 rotate_left
 . rw [if_neg y]
   have K :has 47 u=false:=by simpa using y
   have C:=Vy K;obtain ⟨j,r⟩:=Xv (neg:=s) (n:=zH (ahead 47 u)) (d:=1) (by simp) (by omega);have m:(vj s (zH (ahead 47 u)) 1).num.natAbs=zH (ahead 47 u):=by rw [j];cases s<;>simp
   refine ⟨?_,by
    unfold yo;rw [r,m,e]
    exact ⟨l1,by simp [dec,Yc (β:=10) (n:=1) (by omega) (by omega),ZH]⟩⟩
   unfold zw;rw [r,m,e,j,z,if_pos rfl,List.append_nil,C]
   congr 1
   cases s with
   | false=>rw [if_neg (by simp),if_neg (by simp)]
   | true=>rw [if_pos rfl,if_pos rfl,if_pos (by have:=B rfl;rw [C] at this;omega)]
 obtain ⟨E,G,F,L⟩:=hd y
 obtain ⟨b,I,_⟩:=Y4 E
 have M:zH (yt 47 u)≠0:=by
  intro h;rw [h,vO] at b;exact G b.symm
 have J:zH (yt 47 u)≠1:=by
  intro h;rw [h] at b;exact F (by rw [<- b];simp [dec,Yc (β:=10) (n:=1) (by omega) (by omega),ZH];decide)
 rw [if_pos y];obtain ⟨j,r⟩:=Xv (neg:=s) L M;have m:(vj s (zH (ahead 47 u)) (zH (yt 47 u))).num.natAbs=zH (ahead 47 u):=by rw [j];cases s<;>simp
 refine ⟨?_,by unfold yo;rw [r,m,e,b];exact ⟨l1,I⟩⟩;unfold zw;rw [r,m,e,b,if_neg J,j,z];rw [List.append_assoc]
 congr 1
 rotate_left
 . exact znu y
 cases s with
 | false=>rw [if_neg (by simp),if_neg (by simp)]
 | true=>rw [if_pos rfl,if_pos rfl,if_pos (by have:=B rfl;omega)]
theorem zko:dec 1=[49]:=by simp [dec,Yc (β:=10) (n:=1) (by omega) (by omega),ZH];decide
theorem ZC {l:List UInt8} {q:Rat} (h:zip l q):
 yk (ahead 47 (zq l))=true/\(yO l=true->ahead 47 (zq l)≠[48])/\
 (has 47 (zq l)=true->yk (yt 47 (zq l))=true/\yt 47 (zq l)≠[48]/\yt 47 (zq l)≠[49]/\
   ahead 47 (zq l)≠[48]/\Nat.Coprime (zH (ahead 47 (zq l))) (zH (yt 47 (zq l))))/\
 q=vj (yO l) (zH (ahead 47 (zq l))) (if has 47 (zq l) then zH (yt 47 (zq l)) else 1):=by
 obtain ⟨B,j,r,C⟩:=zgg h.1
 have u:=h.2
 have y:dec q.num.natAbs=[48]->q.num=0:=by
  intro e
  have:q.num.natAbs=0:=zi9 (e.trans vO.symm)
  omega
 have z:q.num=if decide (q.num<0)=true then -(q.num.natAbs:Int) else q.num.natAbs:=by
  by_cases b:q.num<0
  . simp [b];omega
  simp [b];omega
 refine ⟨by rw [j];exact zha u.1,?_,?_,?_⟩
 . rw [B,j]
   intro b e;have:=y e;simp at b
   omega
 . rw [r]
   intro hd;have m :q.den≠1:=by simpa using hd
   rw [j,C m,Z4,Z4];refine ⟨zha u.2,?_,?_,?_,q.reduced⟩
   . intro e;exact q.den_nz (zi9 (e.trans vO.symm))
   . intro e;exact m (zi9 (e.trans zko.symm))
   . intro e
     have b:=y e;have:=q.reduced;rw [b] at this;simp at this;exact m this
 . rw [B,j,r,Z4]
   by_cases hd:q.den=1
   rotate_left
   . have:decide (q.den≠1)=true:=by simp [hd]
     rw [this,if_pos rfl,C hd,Z4,vj, <- z,Rat.num_divInt_den]
   have:decide (q.den≠1)=false:=by simp [hd]
   rw [this,if_neg (by simp),vj, <- z]
   conv=>lhs;rw [<- Rat.num_divInt_den q,hd]
def zp (l:List UInt8):Option Rat:=
 let q:=vj (yO l) (zH (ahead 47 (zq l))) (if has 47 (zq l) then zH (yt 47 (zq l)) else 1)
 if l=zw q/\yo 50000 q then some q else none
theorem xe {l:List UInt8} {q:Rat}:zp l=some q↔zip l q:=by
 unfold zp
 constructor
 rotate_left
 . intro h
   have e:=(ZC h).2.2.2
   simp only
   rw [<- e];exact if_pos h
 intro h
 simp only at h;generalize vj (yO l) (zH (ahead 47 (zq l))) (if has 47 (zq l) then zH (yt 47 (zq l)) else 1)=r at h
 split at h
 . rename_i b;injection h with h;subst h;exact b
 cases h
theorem Zn {l:List UInt8}:zp l=none↔∀ q,¬ zip l q:=by
 constructor
 . intro h q b;rw [xe.2 b] at h;cases h
 intro h
 cases hr:zp l with
 | none=>rfl
 | some q=>exact absurd (xe.1 hr) (h q)
theorem XK {q:Rat} (h:yo 50000 q):zp (zw q)=some q:=xe.2 ⟨rfl,h⟩
theorem zrr {l:List UInt8} (h:yk (ahead 47 (zq l))=false):zp l=none:=by
 rw [Zn]
 intro q b
 have:=(ZC b).1
 rw [h] at this;cases this
theorem zsu {l:List UInt8} (h:yO l=true) (h0:ahead 47 (zq l)=[48]):zp l=none:=by
 rw [Zn]
 intro q b
 exact (ZC b).2.1 h h0
theorem Ya {l:List UInt8} (h:has 47 (zq l)=true) (b:yk (yt 47 (zq l))=false\/yt 47 (zq l)=[48]\/yt 47 (zq l)=[49]\/ahead 47 (zq l)=[48]):zp l=none:=by
 rw [Zn]
 intro q r
 obtain ⟨e,m,j,u,_⟩:=(ZC r).2.2.1 h
 rcases b with b | b | b | b
 . rw [b] at e;cases e
 . exact m b
 . exact j b
 . exact u b
theorem Xs (s:Bool) (n:Nat):(vj s n 1).num=(if s then -(n:Int) else n)/\(vj s n 1).den=1:=Xv (by simp) (by omega)
theorem zbw {l:List UInt8} (h:yk (ahead 47 (zq l))=true) (h0:yO l=true->ahead 47 (zq l)≠[48]) (hh:has 47 (zq l)=false):zp l=some (vj (yO l) (zH (ahead 47 (zq l))) 1):=by
 rw [xe]
 have:=zah h h0 (by rw [hh];intro h;cases h)
 rw [hh] at this
 simpa using this
theorem zel {s:Bool} {n d:Nat} (hd:d≠0) (h:(vj s n d).den=d):Nat.Coprime n d:=by
 unfold vj at h
 rw [Rat.den_divInt,if_neg (by omega)] at h
 have j:(d:Int).gcd (if s then -(n:Int) else n)=Nat.gcd n d:=by
  cases s<;>simp [Int.gcd,Nat.gcd_comm]
 rw [j] at h
 have m:0<Nat.gcd n d:=Nat.gcd_pos_of_pos_right _ (by omega)
 have l:Nat.gcd n d ∣ d:=Nat.gcd_dvd_right n d
 obtain ⟨k,b⟩:=l
 have e:d / Nat.gcd n d=k:=by
  conv=>lhs;lhs;rw [b]
  exact Nat.mul_div_cancel_left _ m
 have r:(d:Int).natAbs=d:=Int.natAbs_natCast d
 rw [r,e] at h
 have u:Nat.gcd n d*d=1*d:=by rw [Nat.one_mul];conv=>lhs;rhs;rw [<- h]
                              exact b.symm
 exact Nat.eq_of_mul_eq_mul_right (by omega) u
theorem zir {l:List UInt8} (h:yk (ahead 47 (zq l))=true) (h0:yO l=true->ahead 47 (zq l)≠[48]) (hh:has 47 (zq l)=true)
 (h1:yk (yt 47 (zq l))=true) (h2:yt 47 (zq l)≠[48]) (h3:yt 47 (zq l)≠[49]):
 zp l=if (vj (yO l) (zH (ahead 47 (zq l))) (zH (yt 47 (zq l)))).den=zH (yt 47 (zq l)) then some (vj (yO l) (zH (ahead 47 (zq l))) (zH (yt 47 (zq l)))) else none:=by
 have b:zH (yt 47 (zq l))≠0:=by
  intro e
  have:=(Y4 h1).1
  rw [e,vO] at this
  exact h2 this.symm
 split
 . rename_i hd
   rw [xe];have:=zah h h0 (fun _=>⟨h1,h2,h3,zel b hd⟩);rw [hh] at this
   simpa using this
 rename_i hd
 rw [Zn];intro q j
 apply hd
 exact (Xv ((ZC j).2.2.1 hh).2.2.2.2 b).2
theorem za2 {l:List UInt8} (h1:yk l=true) (h2:l≠[48]):zH l≠0:=by
 intro e
 have:=(Y4 h1).1
 rw [e,vO] at this
 exact h2 this.symm
theorem za3 {l:List UInt8} (h:yk l=true):len 4294967296 (zH l)<=50000:=by
 obtain ⟨b,m,j⟩:=Y4 h
 have e:=ZQ (β:=4294967296) (n:=zH l) (by omega)
 rw [b] at e
 omega
theorem YK {l:List UInt8} (h:yk l=true):l.all xu=true/\l.length<=50000:=by
 obtain ⟨j,e,b⟩:=Y4 h
 unfold xG at b
 rw [Bool.and_eq_true] at b
 exact ⟨b.1,e⟩
theorem yo.len {M:Nat} {q:Rat} (h:yo M q):Go.Proofs.YthbmhkiphmcogaaGreatDoor.len 4294967296 q.num.natAbs<=M/\Go.Proofs.YthbmhkiphmcogaaGreatDoor.len 4294967296 (q.den:Int).natAbs<=M:=
 ⟨Nat.le_trans (ZQ (by omega)) h.1,by rw [Int.natAbs_natCast];exact Nat.le_trans (ZQ (by omega)) h.2⟩
structure yE where
 den:Int
 cell:Nat->Nat->Int
 basic:Nat->Nat
 other:Nat->Nat
def yE.bare (T:yE) (r c:Nat):Nat->Nat->Int:=fun i k=>
 if i=r then (if k=c then T.den else -(T.cell r k)) else if k=c then T.cell i c else (T.cell i k*T.cell r c - T.cell i c*T.cell r k).tdiv T.den
def yE.pivot (T:yE) (r c:Nat):yE:=
 { den:=if T.cell r c<0 then -(T.cell r c) else T.cell r c,
      cell:=fun i k=>if T.cell r c<0 then -(T.bare r c i k) else T.bare r c i k,
      basic:=fun i=>if i=r then T.other (c - 1) else T.basic i,
      other:=fun k=>if k=c - 1 then T.basic r else T.other k }
def yE.enter (T:yE) (m:Nat) (but:Int):Nat->Nat
 | 0=>0
 | n+1=>if (T.other n:Int)≠but/\0<T.cell m (n+1)/\(T.enter m but n=0\/T.other n<T.other (T.enter m but n - 1)) then n+1 else T.enter m but n
def yE.ahead (T:yE) (room c i j:Nat):Prop:=
 T.cell i 0* -(T.cell j c)<T.cell j 0* -(T.cell i c)\/(T.cell i 0* -(T.cell j c)=T.cell j 0* -(T.cell i c)/\(T.basic i=room\/(T.basic j≠room/\T.basic i<T.basic j)))
instance (T:yE) (room c i j:Nat):Decidable (T.ahead room c i j):=by unfold yE.ahead;exact inferInstance
def yE.leave (T:yE) (room c:Nat):Nat->Option Nat
 | 0=>none
 | n+1=>if T.cell n c ≥ 0 then T.leave room c n else match T.leave room c n with
   | none=>some n
   | some j=>if T.ahead room c n j then some n else some j
def Fit (z:Int):Prop:=len 4294967296 z.natAbs<=8388608
structure yE.Fits (T:yE) (m L:Nat):Prop where
 den:0<T.den
 fden:Fit T.den
 cell:∀ i k,i<=m->k<L->Fit (T.cell i k)
theorem yE.enter_le (T:yE) (m:Nat) (but:Int) (n:Nat):T.enter m but n<=n:=by
 induction n with
 | zero=>exact Nat.le_refl 0
 | succ n ih=>
   unfold yE.enter
   split
   . exact Nat.le_refl _
   omega
theorem yE.leave_lt (T:yE) (room c:Nat):∀ (n j:Nat),T.leave room c n=some j->j<n/\T.cell j c<0
 | 0,j,h=>by cases h
 | n+1,j,h=>by
   unfold yE.leave at h
   split at h
   . have:=yE.leave_lt T room c n j h;exact ⟨by omega,this.2⟩
   rename_i l
   split at h
   . injection h with h;subst h;exact ⟨by omega,by omega⟩
   rename_i e b
   split at h
   . injection h with h;subst h;exact ⟨by omega,by omega⟩
   injection h with h;subst h
   have:=yE.leave_lt T room c n e b;exact ⟨by omega,this.2⟩
def za7 (β:Int):List Int->Int
 | []=>0
 | d :: ds=>d+β*za7 β ds
theorem zdz (β:Int) (a b:List Int):za7 β (a ++ b)=za7 β a+β ^ a.length*za7 β b:=by
 induction a with
 | nil=>simp [za7]
 | cons d a ih=>simp only [List.cons_append,za7,ih,List.length_cons,Int.pow_succ];rw [Int.mul_add,Int.mul_comm (β ^ a.length) β,Int.mul_assoc];omega
theorem zea (β:Nat) (ds:List Nat):za7 β (ds.map fun (d:Nat)=>(d:Int))=(val β ds:Int):=by
 induction ds with
 | nil=>rfl
 | cons d ds ih=>simp only [List.map_cons,za7,val,ih];push_cast;rfl
theorem zly (β:Int) (zs:List Int) (k:Nat) (d:Int) (hk:k<zs.length):za7 β (zs.set k d)=za7 β zs+β ^ k*(d - zs[k]):=by
 induction zs generalizing k with
 | nil=>simp at hk
 | cons z zs ih=>
   cases k with
   | zero=>simp [za7];omega
   | succ k=>
     simp only [List.set_cons_succ,za7,List.getElem_cons_succ];rw [ih k (by simpa using hk),Int.mul_add,Int.pow_succ, <- Int.mul_assoc,Int.mul_comm β (β ^ k)]
     omega
def Fits (lo hi:Int) (zs:List Int):Prop:=∀ z∈zs,lo<=z/\z<hi
theorem Fits.get {lo hi:Int} {zs:List Int} (h:Fits lo hi zs) {k:Nat} (hk:k<zs.length):lo<=zs[k]/\zs[k]<hi:=h _ (List.getElem_mem hk)
theorem zut {β:Int} (hβ:0<β) {zs:List Int} (h:Fits 0 β zs):0<=za7 β zs/\za7 β zs<β ^ zs.length:=by
 induction zs with
 | nil=>simp [za7]
 | cons z zs ih=>
   obtain ⟨l,j⟩:=h z List.mem_cons_self;obtain ⟨b,m⟩:=ih (fun x hx=>h x (List.mem_cons_of_mem _ hx));simp only [za7,List.length_cons,Int.pow_succ];have r:=Int.mul_nonneg (Int.le_of_lt hβ) b;have e:β*(za7 β zs+1)<=β*β ^ zs.length:=Int.mul_le_mul_of_nonneg_left (by omega) (Int.le_of_lt hβ);rw [Int.mul_add,Int.mul_one] at e;rw [Int.mul_comm (β ^ zs.length)]
   omega
theorem zrg {β:Nat} {zs:List Int} (h:Fits 0 β zs):∃ ds:List Nat,zs=(ds.map fun (d:Nat)=>(d:Int))/\zI β ds/\ds.length=zs.length:=by
 refine ⟨zs.map Int.toNat,?_,?_,by simp⟩
 rotate_left
 . intro d hd
   obtain ⟨z,b,rfl⟩:=List.mem_map.1 hd;have:=h z b
   omega
 rw [List.map_map]
 conv=>lhs;rw [<- List.map_id zs]
 apply List.map_congr_left
 intro z b;have:=(h z b).1
 simp;omega
def Zl (da db:List Nat) (k:Nat):List Int:=(List.range da.length).map fun j=>if j<k then (da.getD j 0:Int) - db.getD j 0 else da.getD j 0
theorem vU (da db:List Nat) (k:Nat):(Zl da db k).length=da.length:=by simp [Zl]
theorem YD (da db:List Nat) (k j:Nat) (hj:j<da.length):(Zl da db k)[j]'(by rw [vU];exact hj)=if j<k then (da.getD j 0:Int) - db.getD j 0 else da.getD j 0:=by simp [Zl]
theorem zh5 (da db:List Nat):Zl da db 0=da.map fun (d:Nat)=>(d:Int):=by
 apply List.ext_getElem
 . simp [Zl]
 intro j e b
 rw [YD _ _ _ _ (by simpa using b)];simp at b
 simp [b]
theorem zjr (da db:List Nat) (k:Nat) (hk:k<da.length):(Zl da db k).set k ((da.getD k 0:Int) - db.getD k 0)=Zl da db (k+1):=by
 apply List.ext_getElem
 . simp [Zl]
 intro j l b
 rw [vU] at b;rw [YD _ _ _ _ b,List.getElem_set]
 by_cases h:k=j
 . subst h;simp
 rw [if_neg h,YD _ _ _ _ b]
 by_cases e:j<k
 . rw [if_pos e,if_pos (by omega)]
 rw [if_neg e,if_neg (by omega)]
theorem zia (β:Int) (f g:Nat->Int):∀ l:List Nat,za7 β (l.map fun j=>f j - g j)=za7 β (l.map f) - za7 β (l.map g):=by
 intro l
 induction l with
 | nil=>rfl
 | cons x l ih=>simp only [List.map_cons,za7,ih];rw [Int.mul_sub];omega
theorem zl3 (da:List Nat):((List.range da.length).map fun j=>((da.getD j 0:Nat):Int))=da.map fun (d:Nat)=>(d:Int):=by
 apply List.ext_getElem
 . simp
 intro j b e
 simp at b
 simp [b]
theorem zm4 (β:Int):∀ n,za7 β (List.replicate n 0)=0:=by
 intro n
 induction n with
 | zero=>rfl
 | succ n ih=>rw [List.replicate_succ,za7,ih];simp
theorem zmo (β:Nat) (b:List Nat) (n:Nat) (h:b.length<=n):za7 β ((List.range n).map fun j=>((b.getD j 0:Nat):Int))=val β b:=by
 obtain ⟨m,rfl⟩:∃ m,n=b.length+m:=⟨n - b.length,by omega⟩
 have e:((List.range (b.length+m)).map fun j=>((b.getD j 0:Nat):Int))=(b.map fun (d:Nat)=>(d:Int)) ++ List.replicate m 0:=by
  apply List.ext_getElem
  . simp
  intro j r u
  simp at r;rw [List.getElem_append]
  by_cases l:j<b.length
  . simp [l]
  simp [l]
 rw [e,zdz,zm4,zea];simp
theorem zil (β:Nat) (da db:List Nat) (h:db.length<=da.length):za7 β (Zl da db db.length)=(val β da:Int) - val β db:=by
 have e:Zl da db db.length=(List.range da.length).map fun j=>((da.getD j 0:Nat):Int) - ((db.getD j 0:Nat):Int):=by
  unfold Zl
  apply List.map_congr_left
  intro j _
  by_cases b:j<db.length
  . rw [if_pos b]
  rw [if_neg b,xq (ds:=db) (by omega)];simp
 rw [e,zia,zl3,zea,zmo _ _ _ h]
theorem zif {β:Nat} {da db:List Nat} (hβ:0<β) (ha:zI β da) (hb:zI β db) (k:Nat):Fits (-(β:Int)) β (Zl da db k):=by
 intro z b
 obtain ⟨j,e,rfl⟩:=List.mem_map.1 b
 have l:=ha.getD hβ j
 have m:=hb.getD hβ j
 split<;>omega
def YX (β:Int) (zs:List Int) (k:Nat) (V:Int):Prop:=
 za7 β zs=V/\Fits 0 β (zs.take k)/\(∀ h:k<zs.length,-β<=zs[k]/\zs[k]<β)/\∀ j (h:j<zs.length),k<j-> -β<zs[j]/\zs[j]<β
theorem YX.start {β:Nat} {da db:List Nat} (hβ:0<β) (ha:zI β da) (hb:zI β db) (h:db.length<=da.length):YX β (Zl da db db.length) 0 ((val β da:Int) - val β db):=by
 refine ⟨zil β da db h,by intro z b;simp at b,fun h0=>(zif hβ ha hb _).get h0,fun j hj _=>?_⟩
 rw [vU] at hj
 rw [YD _ _ _ _ hj]
 have e:=ha.getD hβ j
 have l:=hb.getD hβ j
 split<;>omega
theorem zio {lo hi:Int} {zs:List Int} {k:Nat} (hk:k<zs.length) (h:Fits lo hi (zs.take k)) (h1:lo<=zs[k]) (h2:zs[k]<hi):Fits lo hi (zs.take (k+1)):=by
 intro z e
 rw [Vq _ _ hk] at e
 rcases List.mem_append.1 e with b | b
 . exact h z b
 . simp at b;subst b;exact ⟨h1,h2⟩
theorem YX.keep {β:Int} {zs:List Int} {k:Nat} {V:Int} (h:YX β zs k V) (hk:k<zs.length) (h0:0<=zs[k]):YX β zs (k+1) V:=by
 obtain ⟨e,m,l,b⟩:=h
 refine ⟨e,zio hk m h0 (l hk).2,fun hk' =>?_,fun j hj hlt=>b j hj (by omega)⟩
 have:=b (k+1) hk' (by omega)
 omega
theorem YX.more {β:Int} (hβ:0<β) {zs:List Int} {k:Nat} {V:Int} (h:YX β zs k V) (hV:0<=V) (hk:k<zs.length) (h0:zs[k]<0):k+1<zs.length:=by
 rcases Nat.lt_or_ge (k+1) zs.length with b | b
 . exact b
 . exfalso
   obtain ⟨m,l,r,z⟩:=h;have e:zs=zs.take k ++ [zs[k]]:=by rw [<- Vq _ _ hk,List.take_of_length_le b]
   have j:=zdz β (zs.take k) [zs[k]];rw [<- e,m] at j;simp only [za7,Int.mul_zero,Int.add_zero] at j;have y:=(zut hβ l).2;have u:β ^ (zs.take k).length*zs[k]<=β ^ (zs.take k).length*(-1):=Int.mul_le_mul_of_nonneg_left (by omega) (Int.le_of_lt (Int.pow_pos hβ))
   omega
theorem YX.back {β:Int} (hβ:0<β) {zs:List Int} {k:Nat} {V:Int} (h:YX β zs k V) (hk:k+1<zs.length) (h0:zs[k]<0):
 YX β ((zs.set k (zs[k]+β)).set (k+1) (zs[k+1] - 1)) (k+1) V:=by
 obtain ⟨y,u,l,e⟩:=h
 have hb:=l (by omega)
 have B:=e (k+1) hk (by omega)
 refine ⟨?_,?_,?_,?_⟩
 . rw [zly _ _ _ _ (by simpa using hk),zly _ _ _ _ (by omega),List.getElem_set_ne (by omega),y,Int.pow_succ]
   have r:zs[k]+β - zs[k]=β:=by omega
   have m:zs[k+1] - 1 - zs[k+1]= -1:=by omega
   rw [r,m]
   omega
 . rw [List.take_set_of_le (by omega)]
   apply zio (by simpa using (by omega:k<zs.length))
   . rw [List.take_set_of_le (by omega)];exact u
   . rw [List.getElem_set_self];omega
   . rw [List.getElem_set_self];omega
 . intro C
   rw [List.getElem_set_self]
   omega
 . intro j b z
   simp at b;rw [List.getElem_set_ne (by omega),List.getElem_set_ne (by omega)];exact e j b (by omega)
theorem YX.done {β:Nat} {zs:List Int} {k:Nat} {V:Nat} (h:YX β zs k (V:Int)) (hk:zs.length<=k):∃ ds:List Nat,zs=(ds.map fun (d:Nat)=>(d:Int))/\zI β ds/\ds.length=zs.length/\val β ds=V:=by
 obtain ⟨j,b,_,_⟩:=h
 rw [List.take_of_length_le hk] at b
 obtain ⟨ds,rfl,l,e⟩:=zrg b
 refine ⟨ds,rfl,l,e,?_⟩
 rw [zea] at j
 omega
def vC (l:List UInt8):List UInt8:=if has 47 (zq l) then yt 47 (zq l) else [49]
theorem zie {q:Rat} (h:yo 50000 q):(zw q).length<=100002:=by
 obtain ⟨j,l⟩:=h
 unfold zw
 rw [List.length_append,List.length_append]
 have e:(if q.num<0 then ([45]:List UInt8) else []).length<=1:=by split<;>simp
 have b:(if q.den=1 then ([]:List UInt8) else 47 :: dec q.den).length<=50001:=by split<;>simp;omega
 omega
theorem zpo {l:List UInt8} (h:100002<l.length):zp l=none:=by
 rw [Zn]
 rintro q ⟨rfl,b⟩
 have:=zie b
 omega
theorem zmg {l:List UInt8} {q:Rat} (h:zip l q):ahead 47 (zq l)=dec q.num.natAbs/\vC l=dec q.den:=by
 obtain ⟨m,j,e,b⟩:=zgg h.1
 refine ⟨j,?_⟩
 unfold vC
 rw [e]
 by_cases hd:q.den=1
 . rw [hd,zko];simp
 rw [if_pos (by simpa using hd),b hd]
theorem Xf {l:List UInt8} (h:xG (ahead 47 (zq l))=false\/xG (vC l)=false\/50000<(ahead 47 (zq l)).length\/50000<(vC l).length\/zH (vC l)=0):zp l=none:=by
 rw [Zn]
 intro q b
 obtain ⟨j,e⟩:=zmg b
 rw [j,e] at h
 obtain ⟨_,m,r⟩:=b
 rcases h with h | h | h | h | h
 . rw [V0] at h;cases h
 . rw [V0] at h;cases h
 . omega
 . omega
 . rw [Z4] at h;exact q.den_nz h
theorem zrz (l:List UInt8):(if has 47 (zq l) then zH (yt 47 (zq l)) else 1)=zH (vC l):=by
 unfold vC
 split
 . rfl
 rfl
theorem zod {l:List UInt8} (h1:xG (ahead 47 (zq l))=true) (h2:xG (vC l)=true) (h3:(ahead 47 (zq l)).length<=50000) (h4:(vC l).length<=50000):
 zp l=if zw (vj (yO l) (zH (ahead 47 (zq l))) (zH (vC l)))=l then some (vj (yO l) (zH (ahead 47 (zq l))) (zH (vC l))) else none:=by
 unfold zp
 rw [zrz]
 simp only
 generalize u:vj (yO l) (zH (ahead 47 (zq l))) (zH (vC l))=q
 by_cases b:zw q=l
 rotate_left
 . rw [if_neg b,if_neg (fun h=>b h.1.symm)]
 rw [if_pos b]
 have r:yo 50000 q:=by
  obtain ⟨y,j,m,e⟩:=zgg b.symm
  constructor
  . rw [<- j];exact h3
  by_cases hd:q.den=1
  . rw [hd,zko];decide
  rw [<- e hd]
  unfold vC at h4;rw [m,if_pos (by simpa using hd)] at h4;exact h4
 rw [if_pos ⟨b.symm,r⟩]
def zfz (b:Bool) (n:Nat):Int:=if b then -(n:Int) else n
theorem Xp (b:Bool) (n d:Nat):vj b n d=Rat.divInt (zfz b n) d:=rfl
theorem zas (x:Rat):x.num=zfz (decide (x.num<0)) x.num.natAbs:=by
 unfold zfz
 by_cases h:x.num<0
 . rw [decide_eq_true h,if_pos rfl];omega
 rw [decide_eq_false h,if_neg (by decide)];omega
theorem Z7 (x:Rat):Rat.divInt x.num x.den=x:=Rat.num_divInt_den x
theorem zsc (x:Rat):x=Rat.divInt (zfz (decide (x.num<0)) x.num.natAbs) x.den:=by
 rw [<- zas]
 exact (Z7 x).symm
theorem zk1 (a b:Bool) (n m:Nat):zfz a n*zfz b m=zfz (a != b) (n*m):=by
 unfold zfz
 cases a<;>cases b<;>simp [Int.neg_mul,Int.mul_neg]
theorem zuk (x y:Rat):x*y=vj (decide (x.num<0) != decide (y.num<0)) (x.num.natAbs*y.num.natAbs) (x.den*y.den):=by
 rw [Xp, <- zk1, <- zas, <- zas,Int.natCast_mul, <- Rat.divInt_mul_divInt,Z7,Z7]
theorem zue (y:Rat):y⁻¹=Rat.divInt (zfz (decide (y.num<0)) y.den) y.num.natAbs:=by
 conv=>lhs;rw [<- Z7 y,Rat.inv_divInt]
 unfold zfz
 by_cases h:y.num<0
 . rw [decide_eq_true h,if_pos rfl]
   have:y.num= -((y.num.natAbs:Nat):Int):=by omega
   conv=>lhs;rw [this,Rat.divInt_neg']
 rw [decide_eq_false h,if_neg (by decide)]
 have:y.num=((y.num.natAbs:Nat):Int):=by omega
 conv=>lhs;rw [this]
theorem zuq (x y:Rat):x / y=vj (decide (x.num<0) != decide (y.num<0)) (x.num.natAbs*y.den) (x.den*y.num.natAbs):=by
 rw [Rat.div_def,zue,Xp, <- zk1,Int.natCast_mul, <- Rat.divInt_mul_divInt, <- zsc]
theorem zi7 (x y:Rat):x+y=Rat.divInt (zfz (decide (x.num<0)) (x.num.natAbs*y.den)+zfz (decide (y.num<0)) (y.num.natAbs*x.den)) ((x.den*y.den:Nat):Int):=by
 have e:zfz (decide (x.num<0)) (x.num.natAbs*y.den)=x.num*y.den:=by
  conv=>rhs;rw [zas x]
  unfold zfz;split<;>simp [Int.neg_mul]
 have b:zfz (decide (y.num<0)) (y.num.natAbs*x.den)=y.num*x.den:=by
  conv=>rhs;rw [zas y]
  unfold zfz;split<;>simp [Int.neg_mul]
 rw [e,b]
 conv=>lhs;rw [<- Z7 x, <- Z7 y]
 rw [Rat.divInt_add_divInt _ _ (by have:=x.den_nz;omega) (by have:=y.den_nz;omega),Int.natCast_mul]
theorem zh8 {x y:Rat} (h:decide (x.num<0)=decide (y.num<0)):x+y=vj (decide (x.num<0)) (x.num.natAbs*y.den+y.num.natAbs*x.den) (x.den*y.den):=by
 rw [zi7,Xp, <- h]
 congr 1
 unfold zfz;split<;>push_cast<;>omega
theorem zms {x y:Rat} (h:decide (x.num<0)≠decide (y.num<0)) (hle:y.num.natAbs*x.den<=x.num.natAbs*y.den):x+y=vj (decide (x.num<0)) (x.num.natAbs*y.den - y.num.natAbs*x.den) (x.den*y.den):=by
 rw [zi7,Xp]
 congr 1
 generalize x.num.natAbs*y.den=a at*
 generalize y.num.natAbs*x.den=b at*
 cases hx:decide (x.num<0)<;>cases hy:decide (y.num<0)<;>simp [hx,hy] at h<;>simp [zfz]<;>omega
theorem zl2 {x y:Rat} (h:decide (x.num<0)≠decide (y.num<0)) (hle:x.num.natAbs*y.den<y.num.natAbs*x.den):x+y=vj (decide (y.num<0)) (y.num.natAbs*x.den - x.num.natAbs*y.den) (x.den*y.den):=by
 rw [zi7,Xp]
 congr 1
 generalize x.num.natAbs*y.den=a at*
 generalize y.num.natAbs*x.den=b at*
 cases hx:decide (x.num<0)<;>cases hy:decide (y.num<0)<;>simp [hx,hy] at h<;>simp [zfz]<;>omega
theorem zi8 {a:Int} (h:a≠0):(a:Rat)≠0:=by
 intro e
 exact h (by exact_mod_cast e)
def Sz (X:Nat) (q:Rat):Prop:=q.num.natAbs<=X/\q.den<=X
theorem Sz.mono {X Y:Nat} {q:Rat} (h:Sz X q) (hXY:X<=Y):Sz Y q:=⟨Nat.le_trans h.1 hXY,Nat.le_trans h.2 hXY⟩
theorem zu9 {X:Nat} {q:Rat} {s M:Int} (hs:s≠0) (h:q*s=M) (h1:M.natAbs<=X) (h2:s.natAbs<=X):Sz X q:=by
 have e:q=Rat.divInt M s:=by
  have l:=zi8 hs
  rw [Rat.divInt_eq_div, <- h]
  grind
 have r:(s.gcd M:Int) ∣ s.sign*M:=Int.dvd_trans (Int.gcd_dvd_right s M) (Int.dvd_mul_left _ _)
 have j:0<s.gcd M:=Int.gcd_pos_of_ne_zero_left _ hs
 have m:(s.sign*M).natAbs<=M.natAbs:=by
  rw [Int.natAbs_mul,Int.natAbs_sign,if_neg hs];omega
 constructor
 rotate_left
 . rw [e,Rat.den_divInt,if_neg hs]
   exact Nat.le_trans (Nat.div_le_self _ _) h2
 rw [e,Rat.num_divInt]
 obtain ⟨t,b⟩:=r;rw [b,Int.mul_ediv_cancel_left _ (by omega)];rw [b,Int.natAbs_mul] at m;have l:t.natAbs<=(s.gcd M:Int).natAbs*t.natAbs:=Nat.le_mul_of_pos_left _ (by simpa using j)
 omega
theorem zi0 (q:Rat):((q.den:Int):Rat)≠0:=zi8 (by have:=q.den_nz;omega)
theorem zgd (q:Rat):q*((q.den:Int):Rat)=(q.num:Rat):=by
 have h:=zi0 q
 conv=>lhs;lhs;rw [<- Rat.num_divInt_den q]
 rw [Rat.divInt_eq_div]
 grind
theorem Sz.zero:Sz 1 0:=⟨by decide,by decide⟩
theorem Sz.one:Sz 1 1:=⟨by decide,by decide⟩
theorem Sz.neg {X:Nat} {q:Rat} (h:Sz X q):Sz X (-q):=⟨by rw [Rat.neg_num,Int.natAbs_neg];exact h.1,by rw [Rat.neg_den];exact h.2⟩
theorem Sz.mul {X Y:Nat} {p q:Rat} (hp:Sz X p) (hq:Sz Y q):Sz (X*Y) (p*q):=by
 refine zu9 (s:=(p.den:Int)*q.den) (M:=p.num*q.num) (Int.mul_ne_zero (by have:=p.den_nz;omega) (by have:=q.den_nz;omega)) ?_ ?_ ?_
 . have b:=zgd p
   have e:=zgd q
   push_cast at b e |-
   rw [<- b, <- e];grind
 . rw [Int.natAbs_mul];exact Nat.mul_le_mul hp.1 hq.1
 . rw [Int.natAbs_mul];exact Nat.mul_le_mul (by simpa using hp.2) (by simpa using hq.2)
theorem Sz.add {X Y:Nat} {p q:Rat} (hp:Sz X p) (hq:Sz Y q):Sz (2*(X*Y)) (p+q):=by
 refine zu9 (s:=(p.den:Int)*q.den) (M:=p.num*q.den+q.num*p.den) (Int.mul_ne_zero (by have:=p.den_nz;omega) (by have:=q.den_nz;omega)) ?_ ?_ ?_
 . have b:=zgd p
   have e:=zgd q
   push_cast at b e |-
   rw [<- b, <- e];grind
 . have b:(p.num*q.den+q.num*p.den).natAbs<=(p.num*q.den).natAbs+(q.num*p.den).natAbs:=by omega
   rw [Int.natAbs_mul,Int.natAbs_mul] at b;have e:=Nat.mul_le_mul hp.1 (show (q.den:Int).natAbs<=Y by simpa using hq.2);have j:=Nat.mul_le_mul hq.1 (show (p.den:Int).natAbs<=X by simpa using hp.2);rw [Nat.mul_comm Y X] at j
   omega
 . rw [Int.natAbs_mul]
   have:=Nat.mul_le_mul (show (p.den:Int).natAbs<=X by simpa using hp.2) (show (q.den:Int).natAbs<=Y by simpa using hq.2)
   omega
theorem Sz.short {X e:Nat} {q:Rat} (h:Sz X q) (hX:X<10 ^ e) (he:0<e):yo e q:=⟨XO (by have:=h.1;omega) he,XO (by have:=h.2;omega) he⟩
theorem yo.sz {e:Nat} {q:Rat} (h:yo e q):Sz (10 ^ e) q:=⟨Nat.le_of_lt (Yk h.1),Nat.le_of_lt (Yk h.2)⟩
abbrev Dz (e:Nat) (q:Rat):Prop:=Sz (10 ^ e) q
theorem Dz.add {e f g:Nat} {p q:Rat} (hp:Dz e p) (hq:Dz f q) (hg:e+f+1<=g):Dz g (p+q):=by
 refine (Sz.add hp hq).mono ?_
 have b:10 ^ (e+f+1)<=10 ^ g:=Nat.pow_le_pow_right (by omega) hg
 rw [Nat.pow_succ,Nat.pow_add] at b
 omega
theorem Dz.mul {e f g:Nat} {p q:Rat} (hp:Dz e p) (hq:Dz f q) (hg:e+f<=g):Dz g (p*q):=by
 refine (Sz.mul hp hq).mono ?_
 rw [<- Nat.pow_add]
 exact Nat.pow_le_pow_right (by omega) hg
theorem Dz.more {e f:Nat} {q:Rat} (h:Dz e q) (hf:e<=f):Dz f q:=h.mono (Nat.pow_le_pow_right (by omega) hf)
theorem Dz.short {e f:Nat} {q:Rat} (h:Dz e q) (hf:e<f):yo f q:=Sz.short h (Nat.pow_lt_pow_right (by omega) hf) (by omega)
theorem Dz.zero (e:Nat):Dz e 0:=Sz.zero.mono (Nat.pow_pos (by omega))
theorem Dz.one (e:Nat):Dz e 1:=Sz.one.mono (Nat.pow_pos (by omega))
def yE.stA (T:yE) (r c i k:Nat):Nat->Nat->Int:=fun i' k' =>if i' ≠r/\(i' <i\/(i' =i/\k' <k)) then T.bare r c i' k' else T.cell i' k'
def yE.stB (T:yE) (r c k:Nat):Nat->Nat->Int:=fun i' k' =>if i' =r then (if k' <k/\k' ≠c then -(T.cell r k') else T.cell r k') else T.bare r c i' k'
def stD (A:Nat->Nat->Int) (i k:Nat):Nat->Nat->Int:=fun i' k' =>if i' <i\/(i' =i/\k' <k) then -(A i' k') else A i' k'
section
variable (T:yE) (r c i k m L:Nat)
theorem yE.bare_col (h:i≠r):T.bare r c i c=T.cell i c:=by unfold yE.bare;rw [if_neg h,if_pos rfl]
theorem yE.stA_start (i' k' :Nat):T.stA r c 0 0 i' k' =T.cell i' k' :=by unfold yE.stA;rw [if_neg (by omega)]
theorem yE.stA_skip (i' k' :Nat):T.stA r c (r+1) 0 i' k' =T.stA r c r 0 i' k' :=by
 unfold yE.stA
 by_cases h:i' ≠r/\(i' <r\/(i' =r/\k' <0))
 . rw [if_pos h,if_pos (by omega)]
 rw [if_neg h,if_neg (by omega)]
theorem yE.stA_here:T.stA r c i k i k=T.cell i k:=by unfold yE.stA;rw [if_neg (by omega)]
theorem yE.stA_row (k' :Nat):T.stA r c i k r k' =T.cell r k' :=by unfold yE.stA;rw [if_neg (by omega)]
theorem yE.stA_col0:T.stA r c i 0 i c=T.cell i c:=by unfold yE.stA;rw [if_neg (by omega)]
theorem yE.stA_next (hi:i≠r) (hk:k≠c) (i' k' :Nat):T.stA r c i (k+1) i' k' =if i' =i/\k' =k then (T.cell i k*T.cell r c - T.cell i c*T.cell r k).tdiv T.den else T.stA r c i k i' k' :=by
 unfold yE.stA
 by_cases h:i' =i/\k' =k
 . obtain ⟨rfl,rfl⟩:=h
   rw [if_pos (by omega),if_pos ⟨rfl,rfl⟩];unfold yE.bare;rw [if_neg hi,if_neg hk]
 rw [if_neg h]
 by_cases b:i' ≠r/\(i' <i\/(i' =i/\k' <k))
 . rw [if_pos b,if_pos (by omega)]
 rw [if_neg b,if_neg (by omega)]
theorem yE.stA_col (hi:i≠r) (i' k' :Nat):T.stA r c i (c+1) i' k' =T.stA r c i c i' k' :=by
 unfold yE.stA
 by_cases h:i' =i/\k' =c
 . obtain ⟨rfl,rfl⟩:=h
   rw [if_pos (by omega),if_neg (by omega),yE.bare_col T r k' i' hi]
 by_cases b:i' ≠r/\(i' <i\/(i' =i/\k' <c))
 . rw [if_pos b,if_pos (by omega)]
 rw [if_neg b,if_neg (by omega)]
theorem yE.stA_end (hi:i≠r) (i' k' :Nat) (hk:k' <L):T.stA r c (i+1) 0 i' k' =if i' =i/\k' =c then T.cell i c else T.stA r c i L i' k' :=by
 unfold yE.stA
 by_cases h:i' =i/\k' =c
 . obtain ⟨rfl,rfl⟩:=h
   rw [if_pos (by omega),if_pos ⟨rfl,rfl⟩,yE.bare_col T r k' i' hi]
 rw [if_neg h]
 by_cases b:i' ≠r/\(i' <i\/(i' =i/\k' <L))
 . rw [if_pos b,if_pos (by omega)]
 rw [if_neg b,if_neg (by omega)]
theorem yE.stB_start (i' k' :Nat) (h:i' <=m):T.stB r c 0 i' k' =T.stA r c (m+1) 0 i' k' :=by
 unfold yE.stB yE.stA
 by_cases b:i' =r
 . subst b;rw [if_pos rfl,if_neg (by omega),if_neg (by omega)]
 rw [if_neg b,if_pos (by omega)]
theorem yE.stB_here:T.stB r c k r k=T.cell r k:=by unfold yE.stB;rw [if_pos rfl,if_neg (by omega)]
theorem yE.stB_next (hk:k≠c) (i' k' :Nat):T.stB r c (k+1) i' k' =if i' =r/\k' =k then -(T.cell r k) else T.stB r c k i' k' :=by
 unfold yE.stB
 by_cases b:i' =r
 rotate_left
 . rw [if_neg b,if_neg (show ¬ (i' =r/\k' =k) from fun h=>b h.1),if_neg b]
 subst b
 by_cases j:k' =k
 . subst j;rw [if_pos rfl,if_pos (by omega),if_pos ⟨rfl,rfl⟩]
 rw [if_pos rfl,if_neg (show ¬ (i' =i' /\k' =k) from fun h=>j h.2),if_pos rfl]
 by_cases e:k' <k/\k' ≠c
 . rw [if_pos e,if_pos (by omega)]
 rw [if_neg e,if_neg (by omega)]
theorem yE.stB_col (i' k' :Nat):T.stB r c (c+1) i' k' =T.stB r c c i' k' :=by
 unfold yE.stB
 by_cases b:i' =r
 rotate_left
 . rw [if_neg b,if_neg b]
 rw [if_pos b,if_pos b]
 by_cases e:k' <c/\k' ≠c
 . rw [if_pos e,if_pos (by omega)]
 rw [if_neg e,if_neg (by omega)]
theorem yE.stB_end (i' k' :Nat) (hk:k' <L):T.bare r c i' k' =if i' =r/\k' =c then T.den else T.stB r c L i' k' :=by
 unfold yE.stB yE.bare
 by_cases b:i' =r
 rotate_left
 . rw [if_neg b,if_neg (show ¬ (i' =r/\k' =c) from fun h=>b h.1),if_neg b]
 subst b
 by_cases e:k' =c
 . subst e;rw [if_pos rfl,if_pos rfl,if_pos ⟨rfl,rfl⟩]
 rw [if_pos rfl,if_neg e,if_neg (show ¬ (i' =i' /\k' =c) from fun h=>e h.2),if_pos rfl,if_pos ⟨hk,e⟩]
end
section
variable (A:Nat->Nat->Int) (i k m L:Nat)
theorem zpu (i' k' :Nat):stD A 0 0 i' k' =A i' k' :=by unfold stD;rw [if_neg (by omega)]
theorem zrd:stD A i k i k=A i k:=by unfold stD;rw [if_neg (by omega)]
theorem zsg (i' k' :Nat):stD A i (k+1) i' k' =if i' =i/\k' =k then -(A i k) else stD A i k i' k' :=by
 unfold stD
 by_cases h:i' =i/\k' =k
 . obtain ⟨rfl,rfl⟩:=h
   rw [if_pos (by omega),if_pos ⟨rfl,rfl⟩]
 rw [if_neg h]
 by_cases b:i' <i\/(i' =i/\k' <k)
 . rw [if_pos b,if_pos (by omega)]
 rw [if_neg b,if_neg (by omega)]
theorem zuy (i' k' :Nat) (hk:k' <L):stD A (i+1) 0 i' k' =stD A i L i' k' :=by
 unfold stD
 by_cases b:i' <i\/(i' =i/\k' <L)
 . rw [if_pos b,if_pos (by omega)]
 rw [if_neg b,if_neg (by omega)]
theorem zub (i' k' :Nat) (hi:i' <=m):stD A (m+1) 0 i' k' = -(A i' k'):=by unfold stD;rw [if_pos (by omega)]
end
end Go.Proofs.YthbmhkiphmcogaaGreatDoor
namespace Go.Proofs.YthbmhkiphmcogaaGreatDoor
open Proofs.Tryz Go.RowKit
theorem ze {p:Prop} (h:p):Hid p:=h
theorem zK {p:Prop} (h:Hid p):p:=h
theorem zz (a:Addr) (n:Nat):(a.add n).block=a.block:=by unfold Addr.add;split<;>rfl
theorem zfe (a:Addr) (i j:Nat):(a.add i).add j=a.add (i+j):=by
 unfold Addr.add
 by_cases hi:i=0<;>by_cases b:j=0<;>simp [hi,b,Nat.add_assoc]
def zV (w:World) (B size:Nat) (A:Option Addr) (n:Nat) (xs:List Value):Prop:=
 xs.length=n*size/\(0<n->∃ ad,A=some ad/\ad.block<B/\∀ j u,xs[j]?=some u->w.cell? (ad.add j)=some u)
section
variable {w w' :World} {B B' size n:Nat} {A:Option Addr} {xs:List Value}
theorem zV.none_:zV w B size A 0 []:=⟨by simp,fun h=>absurd h (by omega)⟩
theorem zV.at_ {k:Nat} (h:zV w B 1 A n xs) (hk:k<n):∃ b u,A=some b/\b.block<B/\xs[k]?=some u/\w.cell? (b.add k)=some u:=by
 obtain ⟨b,e,hb,l⟩:=h.2 (by omega)
 have j:k<xs.length:=by have:=h.1;omega
 exact ⟨b,xs[k],e,hb,List.getElem?_eq_getElem j,l k _ (List.getElem?_eq_getElem j)⟩
theorem zV.keep (h:zV w B size A n xs) (hk:∀ p:Addr,p.block<B->w'.cell? p=w.cell? p):zV w' B size A n xs:=
 ⟨h.1,fun hn=>by
  obtain ⟨l,e,hb,b⟩:=h.2 hn
  exact ⟨l,e,hb,fun j u hu=>(hk _ (by rw [zz];exact hb)).trans (b j u hu)⟩⟩
theorem zV.more (h:zV w B size A n xs) (hB:B<=B'):zV w B' size A n xs:=
 ⟨h.1,fun hn=>by
  obtain ⟨j,e,hb,b⟩:=h.2 hn
  exact ⟨j,e,by omega,b⟩⟩
theorem zV.below (h:zV w B size A n xs) (hb:Below B w w'):zV w' B size A n xs:=h.keep fun _ hp=>hb.cell hp
theorem zV.drew (h:zV w B size A n xs):zV w.drew B size A n xs:=h
theorem zV.alloc (h:zV w B size A n xs) (hB:B<=w.heap.size) (o:Obj):zV (w.alloc o) B size A n xs:=h.keep fun p hp=>World.cell?_alloc_lt w o p (by omega)
theorem zV.cut (h:zV w B size A n xs) {k cap:Nat} (hk:k<=n) (hc:n<=cap):
 zV w B size (if cap=k then A else A.map (·.add (k*size))) (n - k) (xs.drop (k*size)):=by
 refine ⟨by rw [List.length_drop,h.1,Nat.sub_mul],fun hn=>?_⟩
 obtain ⟨e,rfl,hb,b⟩:=h.2 (by omega)
 rw [if_neg (by omega)]
 refine ⟨e.add (k*size),rfl,by rw [zz];exact hb,fun j u hu=>?_⟩
 rw [zfe]
 exact b _ u (by rw [<- hu,List.getElem?_drop])
theorem zV.head (h:zV w B size A n xs) {k:Nat} (hk:k<=n):zV w B size A k (xs.take (k*size)):=by
 refine ⟨by rw [List.length_take,h.1];exact Nat.min_eq_left (Nat.mul_le_mul_right _ hk),fun hn=>?_⟩
 obtain ⟨e,rfl,hb,b⟩:=h.2 (by omega)
 exact ⟨e,rfl,hb,fun j u hu=>b j u (by
  rw [List.getElem?_take] at hu
  split at hu
  . exact hu
  cases hu)⟩
theorem zV.of_own {base:Nat} {e:TypeId} {c:Nat} (h:w.ownsRow base e size (.slice A n c) n xs):zV w w.heap.size size A n xs:=by
 refine ⟨h.1,fun hn=>?_⟩
 obtain ⟨g,m,j,_,b⟩:=h.form hn
 have l:A=some ⟨g,0,none⟩:=by injection j
 subst l
 exact ⟨_,rfl,b,h.cells (g:=g) rfl⟩
end
def Blk (w:World) (g:Nat) (t:TypeId) (cs:Array Value):Prop:=w.heap[g]?=some (.cells cs t (0,0))
section
variable {w w' :World} {g:Nat} {t:TypeId} {cs:Array Value}
theorem Blk.lt (h:Blk w g t cs):g<w.heap.size:=by
 rcases Nat.lt_or_ge g w.heap.size with b | e
 . exact b
 . unfold Blk at h;rw [Array.getElem?_eq_none e] at h;cases h
theorem Blk.cell (h:Blk w g t cs) (i:Nat):w.cell? ⟨g,i,none⟩=cs[i]?:=cell_of_row w g i cs t (0,0) h
theorem Blk.frozen (h:Blk w g t cs) (i:Nat):w.frozen? ⟨g,i,none⟩=false:=by
 unfold Blk at h
 simp [World.frozen?,h]
theorem Blk.new (w:World) (t:TypeId) (cs:Array Value):Blk (w.alloc (.cells cs t)) w.heap.size t cs:=heap_alloc_new w _
theorem Blk.drew (h:Blk w g t cs):Blk w.drew g t cs:=h
theorem Blk.drewN (h:Blk w g t cs) (n:Nat):Blk (w.drewN n) g t cs:=h
theorem Blk.alloc (h:Blk w g t cs) (o:Obj):Blk (w.alloc o) g t cs:=(Below.heap_alloc w o g h.lt).trans h
theorem Blk.set_ (h:Blk w g t cs) (i:Nat) (u:Value):Blk (w.setCell ⟨g,i,none⟩ u) g t (cs.setIfInBounds i u):=by
 unfold Blk at h |-
 simp [World.setCell,Array.getElem?_modify,h]
theorem Blk.far (h:Blk w g t cs) {p:Addr} (hp:g≠p.block) (u:Value):Blk (w.setCell p u) g t cs:=(Below.heap_setCell w p u g hp).trans h
theorem Blk.below {B:Nat} (h:Blk w g t cs) (hb:Below B w w') (hg:g<B):Blk w' g t cs:=(hb.block g hg).trans h
theorem Blk.grown {row:Option Nat} (h:Blk w g t cs) (hb:w.grownBy w' row) (hg:some g≠row):Blk w' g t cs:=(hb.block g h.lt hg).trans h
theorem Blk.reads {n:Nat} (h:Blk w g t cs) (hn:n<=cs.size):zV w w.heap.size 1 (some ⟨g,0,none⟩) n (cs.toList.take n):=by
 refine ⟨by simp [Nat.min_eq_left hn],fun _=>⟨_,rfl,h.lt,fun j u hu=>?_⟩⟩
 have e:(⟨g,0,none⟩:Addr).add j=⟨g,j,none⟩:=by
  unfold Addr.add
  by_cases b:j=0
  . subst b;rfl
  simp [b]
 rw [e,h.cell j]
 rw [List.getElem?_take] at hu
 split at hu
 . rw [<- hu];simp
 cases hu
end
theorem zyh {w:World} {g:Nat} {t:TypeId} {a0:Value} (h:Blk w g t #[a0]):w.cell? ⟨g,0,none⟩=some a0/\g<w.heap.size:=
 ⟨h.cell 0,h.lt⟩
theorem zxb {w:World} {g:Nat} {t:TypeId} {a0 a1:Value} (h:Blk w g t #[a0,a1]):w.cell? ⟨g,0,none⟩=some a0/\w.cell? ⟨g,1,none⟩=some a1/\g<w.heap.size:=
 ⟨h.cell 0,h.cell 1,h.lt⟩
theorem bkc3 {w:World} {g:Nat} {t:TypeId} {a0 a1 a2:Value} (h:Blk w g t #[a0,a1,a2]):w.cell? ⟨g,0,none⟩=some a0/\w.cell? ⟨g,1,none⟩=some a1/\w.cell? ⟨g,2,none⟩=some a2/\g<w.heap.size:=
 ⟨h.cell 0,h.cell 1,h.cell 2,h.lt⟩
theorem bkc5 {w:World} {g:Nat} {t:TypeId} {a0 a1 a2 a3 a4:Value} (h:Blk w g t #[a0,a1,a2,a3,a4]):w.cell? ⟨g,0,none⟩=some a0/\w.cell? ⟨g,1,none⟩=some a1/\w.cell? ⟨g,2,none⟩=some a2/\w.cell? ⟨g,3,none⟩=some a3/\w.cell? ⟨g,4,none⟩=some a4/\g<w.heap.size:=
 ⟨h.cell 0,h.cell 1,h.cell 2,h.cell 3,h.cell 4,h.lt⟩
theorem bkc6 {w:World} {g:Nat} {t:TypeId} {a0 a1 a2 a3 a4 a5:Value} (h:Blk w g t #[a0,a1,a2,a3,a4,a5]):w.cell? ⟨g,0,none⟩=some a0/\w.cell? ⟨g,1,none⟩=some a1/\w.cell? ⟨g,2,none⟩=some a2/\w.cell? ⟨g,3,none⟩=some a3/\w.cell? ⟨g,4,none⟩=some a4/\w.cell? ⟨g,5,none⟩=some a5/\g<w.heap.size:=
 ⟨h.cell 0,h.cell 1,h.cell 2,h.cell 3,h.cell 4,h.cell 5,h.lt⟩
theorem bkc7 {w:World} {g:Nat} {t:TypeId} {a0 a1 a2 a3 a4 a5 a6:Value} (h:Blk w g t #[a0,a1,a2,a3,a4,a5,a6]):w.cell? ⟨g,0,none⟩=some a0/\w.cell? ⟨g,1,none⟩=some a1/\w.cell? ⟨g,2,none⟩=some a2/\w.cell? ⟨g,3,none⟩=some a3/\w.cell? ⟨g,4,none⟩=some a4/\w.cell? ⟨g,5,none⟩=some a5/\w.cell? ⟨g,6,none⟩=some a6/\g<w.heap.size:=
 ⟨h.cell 0,h.cell 1,h.cell 2,h.cell 3,h.cell 4,h.cell 5,h.cell 6,h.lt⟩
theorem zyd {w:World} {g:Nat} {t:TypeId} {a0 a1 a2 a3 a4 a5 a6 a7 a8 a9:Value} (h:Blk w g t #[a0,a1,a2,a3,a4,a5,a6,a7,a8,a9]):w.cell? ⟨g,0,none⟩=some a0/\w.cell? ⟨g,1,none⟩=some a1/\w.cell? ⟨g,2,none⟩=some a2/\w.cell? ⟨g,3,none⟩=some a3/\w.cell? ⟨g,4,none⟩=some a4/\w.cell? ⟨g,5,none⟩=some a5/\w.cell? ⟨g,6,none⟩=some a6/\w.cell? ⟨g,7,none⟩=some a7/\w.cell? ⟨g,8,none⟩=some a8/\w.cell? ⟨g,9,none⟩=some a9/\g<w.heap.size:=
 ⟨h.cell 0,h.cell 1,h.cell 2,h.cell 3,h.cell 4,h.cell 5,h.cell 6,h.cell 7,h.cell 8,h.cell 9,h.lt⟩
def XY (ds:List Nat):List Value:=ds.map fun (d:Nat)=>Value.int .u32 (d:Int)
def Yd (ds:List Nat):List Value:=ds.map fun (d:Nat)=>Value.int .i64 (d:Int)
theorem Zh (ds:List Nat):(XY ds).length=ds.length:=by simp [XY]
theorem XC (ds:List Nat):(Yd ds).length=ds.length:=by simp [Yd]
theorem xb {ds:List Nat} {k:Nat} (hk:k<ds.length):(XY ds)[k]?=some (.int .u32 (ds[k]:Int)):=by simp [XY,hk]
theorem vF {ds:List Nat} {k:Nat} (hk:k<ds.length):(Yd ds)[k]?=some (.int .i64 (ds[k]:Int)):=by simp [Yd,hk]
theorem zde (ds:List Nat) (k:Nat):(XY ds).take k=XY (ds.take k):=by simp [XY,List.map_take]
theorem zq2 (ds:List Nat) (k:Nat):(Yd ds).take k=Yd (ds.take k):=by simp [Yd,List.map_take]
theorem VP (a b:List Nat):Yd (a ++ b)=Yd a ++ Yd b:=by simp [Yd]
def zar (w:World) (B:Nat) (v:Value) (n:Nat):Prop:=
 ∃ A c ds,v= .slice A ds.length c/\ds.length<=c/\c<=maxLen/\zV w B 1 A ds.length (XY ds)/\yW 4294967296 ds/\val 4294967296 ds=n
abbrev yF (w:World) (v:Value) (n:Nat):Prop:=zar w w.heap.size v n
theorem zar.below {w w' :World} {B B' :Nat} {v:Value} {n:Nat} (h:zar w B v n) (hb:Below B w w') (hB:B<=B'):zar w' B' v n:=by
 obtain ⟨A,c,ds,l,j,b,m,r,e⟩:=h
 exact ⟨A,c,ds,l,j,b,(m.below hb).more hB,r,e⟩
theorem yF.below {w w' :World} {v:Value} {n:Nat} (h:yF w v n) (hb:Below w.heap.size w w'):yF w' v n:=zar.below h hb hb.size
def ztn (w:World) (B n:Nat) (e:Ending) (w' :World):Prop:=∃ v,e= .returned v/\zar w B v n/\w=w'
def zat (w:World) (n:Nat) (e:Ending) (w' :World):Prop:=∃ v,e= .returned v/\yF w' v n/\Below w.heap.size w w'
theorem zqv {ds:List Nat} {k:Nat} (hk:k<ds.length) (h:val 4294967296 (ds.take (k+1))=val 4294967296 ds) (h0:ds[k]=0):val 4294967296 (ds.take k)=val 4294967296 ds:=by
 rw [yR _ _ _ hk,h0] at h
 omega
def y8 (ds:List Nat):Array Value:=(XY ds).toArray
theorem zh3 (ds:List Nat):(y8 ds).size=ds.length:=by simp [y8,Zh]
theorem xM {ds:List Nat} {k:Nat} (hk:k<ds.length):(y8 ds)[k]?=some (.int .u32 (ds[k]:Int)):=by
 unfold y8;rw [List.getElem?_toArray];exact xb hk
theorem yZ (ds:List Nat) (k d:Nat):(y8 ds).setIfInBounds k (.int .u32 (d:Int))=y8 (ds.set k d):=by
 unfold y8 XY
 simp [List.map_set]
theorem zh2 (n:Nat):madeCells #[Value.int .u32 0] n=y8 (List.replicate n 0):=by
 apply Array.ext'
 rw [toList_madeCells_one]
 simp [y8,XY]
theorem vV {w:World} {g t:Nat} {ds:List Nat} (h:Blk w g t (y8 ds)):zV w w.heap.size 1 (some ⟨g,0,none⟩) ds.length (XY ds):=by
 have:=h.reads (n:=ds.length) (by rw [zh3];exact Nat.le_refl _)
 rw [show (y8 ds).toList.take ds.length=XY ds by rw [<- Zh ds];simp [y8]] at this
 exact this
def RetD (w:World) (v:Value) (e:Ending) (w' :World):Prop:=e= .returned v/\∃ n,w' =w.drewN n
def zfq (w:World) (v:Value) (e:Ending) (w' :World):Prop:=e= .returned v/\Below w.heap.size w w'
theorem zo {B:Nat} {a w:World} (h:Below B a w) (n:Nat):Below B a (w.drewN n):=⟨h.os,h.tape,h.output,h.size,h.block⟩
def Ret2 (w:World) (v0 v1:Value) (e:Ending) (w' :World):Prop:=e= .returned (.tuple #[v0,v1])/\w=w'
def zbj (w:World) (v:Value) (e:Ending) (w' :World):Prop:=e= .returned v/\w=w'
section
variable {P:Program} {f:FuncId} {args:Array Value} {w:World} {n a:Nat} {v:Value}
theorem zvb (h:Calls P f args (w.drewN n) (zbj (w.drewN n) v)):Calls P f args (w.drewN n) fun e w'' =>e= .returned v/\∃ m,w'' =w.drewN m:=
 h.mono fun _ _ ⟨he,hm⟩=>⟨he,n,hm.symm⟩
theorem zs3 (h:Calls P f args (w.drewN (a+n)) (zbj (w.drewN (a+n)) v)):Calls P f args (w.drewN (a+n)) fun e w'' =>e= .returned v/\∃ m,w'' =w.drewN (a+m):=
 h.mono fun _ _ ⟨he,hm⟩=>⟨he,n,hm.symm⟩
end
theorem ext {a b c:World} (h:Below a.heap.size a b) (k:Below b.heap.size b c):Below a.heap.size a c:=h.trans (k.mono h.size)
theorem zf (w:World) (o:Obj):Below w.heap.size w (w.alloc o):=(Below.refl _ _).alloc (Nat.le_refl _) o
theorem vh (w:World):Below w.heap.size w w:=Below.refl _ _
theorem kb_ {w w2:World} {g:Nat} {t:TypeId} {cs:Array Value} (h:Hid (Blk w g t cs)) (hb:Below w.heap.size w w2):Hid (Blk w2 g t cs):=Blk.below h.out hb (Blk.lt h.out)
theorem eb_ {a b c:World} (h:Hid (Below a.heap.size a b)) (k:Below b.heap.size b c):Hid (Below a.heap.size a c):=ext h.out k
theorem zD (w:World) (n:Nat):Below w.heap.size w (w.drewN n):=zo (Below.refl _ _) n
structure Chg (S:Nat->Prop) (w w' :World):Prop where
 os:w'.os=w.os
 tape:w'.tape=w.tape
 output:w'.output=w.output
 size:w.heap.size<=w'.heap.size
 block:∀ k,k<w.heap.size->¬ S k->w'.heap[k]?=w.heap[k]?
section
variable {S T:Nat->Prop} {w w1 w2 w' :World}
theorem Chg.refl (w:World):Chg S w w:=⟨rfl,rfl,rfl,Nat.le_refl _,fun _ _ _=>rfl⟩
theorem Chg.of_below (h:Below w.heap.size w w'):Chg S w w' :=⟨h.os,h.tape,h.output,h.size,fun k hk _=>h.block k hk⟩
theorem Chg.of_grown {g:Nat} (h:w.grownBy w' (some g)) (hg:S g):Chg S w w' :=
 ⟨h.os,h.tape,h.output,h.size,fun k hk hS=>h.block k hk (fun e=>hS (by injection e with e;rw [e];exact hg))⟩
theorem Chg.trans (h:Chg S w w1) (k:Chg T w1 w2) (hT:∀ b,b<w.heap.size->T b->S b):Chg S w w2:=
 ⟨k.os.trans h.os,k.tape.trans h.tape,k.output.trans h.output,Nat.le_trans h.size k.size,
  fun i hi hS=>(k.block i (Nat.lt_of_lt_of_le hi h.size) (fun ht=>hS (hT i hi ht))).trans (h.block i hi hS)⟩
theorem Chg.mono (h:Chg S w w') (hT:∀ b,b<w.heap.size->S b->T b):Chg T w w' :=⟨h.os,h.tape,h.output,h.size,fun k hk hS=>h.block k hk (fun hs=>hS (hT k hk hs))⟩
theorem Chg.below {B:Nat} (h:Chg S w w') (hB:B<=w.heap.size) (hS:∀ b,S b->B<=b):Below B w w' :=
 ⟨h.os,h.tape,h.output,h.size,fun k hk=>h.block k (Nat.lt_of_lt_of_le hk hB) (fun hs=>by have:=hS k hs;omega)⟩
theorem Chg.blk {g:Nat} {t:TypeId} {cs:Array Value} (h:Chg S w w') (hk:Blk w g t cs) (hg:¬ S g):Blk w' g t cs:=(h.block g hk.lt hg).trans hk
theorem Chg.cell {p:Addr} {v:Value} (h:Chg S w w') (hc:w.cell? p=some v) (hp:¬ S p.block):w'.cell? p=some v:=
 (World.cell?_of_block (h.block p.block (World.block_lt_of_cell? w _ hc) hp)).trans hc
end
theorem Chg.setCell {S:Nat->Prop} {w w' :World} (h:Chg S w w') {p:Addr} (hp:S p.block) (u:Value):Chg S w (w'.setCell p u):=
 ⟨h.os,h.tape,h.output,by have:=h.size;simpa [World.setCell] using this,fun k hk hS=>(Below.heap_setCell w' p u k (fun e=>hS (e ▸ hp))).trans (h.block k hk hS)⟩
end Go.Proofs.YthbmhkiphmcogaaGreatDoor
namespace Go.Proofs.YthbmhkiphmcogaaGreatDoor
open Proofs.Tryz Go.RowKit
def zph (w:World) (A:Option Addr) (c:Nat) (ds:List Nat) (e:Ending) (w' :World):Prop:=
 ∃ k,k<=ds.length/\e= .returned (.slice A k c)/\yW 4294967296 (ds.take k)/\val 4294967296 (ds.take k)=val 4294967296 ds/\w=w'
theorem zig {k:Nat} {ds:List Nat} (hs:zI 4294967296 ds) (hk:k<=ds.length) (hlast:∀ h:0<k,ds[k - 1]≠0):yW 4294967296 (ds.take k):=by
 have b:(ds.take k).length=k:=by rw [List.length_take];omega
 refine yW.mk_ (hs.take k) ?_
 intro h
 rw [List.getElem_take]
 have:=hlast (by omega)
 simp only [b]
 exact this
theorem zho (A:Option Addr) (c:Nat) (ds:List Nat) (w:World) (B:Nat) (hr:zV w B 1 A ds.length (XY ds)) (hs:zI 4294967296 ds) (hl:ds.length<=c) (hc:c<=maxLen):
 Calls Tryz.prog 138 #[.slice A ds.length c] w (zph w A c ds):=by
 have y:=ze hc
 unfold maxLen at hc
 go_enter func138,ntmps138
 go_wp2
 go_loop [0] (fun v=>∃ k:Nat,k<=ds.length/\v= .slice A k c/\Hid (val 4294967296 (ds.take k)=val 4294967296 ds)) (fun v=>match v with | .slice _ n _=>n | _=>0)
 case atStart=>exact ⟨ds.length,Nat.le_refl _,rfl,by rw [List.take_length];exact rfl⟩
 case round=>
  obtain ⟨k,b,rfl,l⟩:=hrel
  by_cases z:0<k
  rotate_left
  . obtain rfl:k=0:=by omega
    go_wp2;go_ret;exact ⟨0,b,rfl,zig hs b (fun h=>absurd h (by omega)),l.o,rfl⟩
  obtain ⟨C,u,rfl,hb,e,r⟩:=hr.at_ (k:=k - 1) (by omega)
  rw [xb (by omega)] at e;injection e with e
  subst e
  by_cases j:ds[k - 1]=0
  rotate_left
  . have m:((ds[k - 1]:Int) == 0)=false:=by rw [beq_eq_false_iff_ne];omega
    go_wp2;go_ret;exact ⟨k,b,rfl,zig hs b (fun _=>j),l.o,rfl⟩
  have m:((ds[k - 1]:Int) == 0)=true:=by rw [j];rfl
  go_wp2;go_round
  case rel=>
   refine ⟨k - 1,by omega,rfl,?_⟩;exact zqv (by omega) (by rw [show k - 1+1=k by omega];exact l.o) j
  case measure=>simp;omega
theorem zkb (A:Option Addr) (c:Nat) (ds:List Nat) (w:World) (B:Nat) (hr:zV w B 1 A ds.length (XY ds)) (hs:zI 4294967296 ds) (hl:ds.length<=c) (hc:c<=maxLen):
 Calls Tryz.prog 138 #[.slice A ds.length c] w (ztn w B (val 4294967296 ds)):=by
 refine (zho A c ds w B hr hs hl hc).mono ?_
 rintro e w' ⟨k,j,rfl,m,l,rfl⟩
 have b:(ds.take k).length=k:=by rw [List.length_take];omega
 refine ⟨_,rfl,⟨A,c,ds.take k,by rw [b],by omega,hc,?_,m,l⟩,rfl⟩
 have:=hr.head (k:=k) j
 rw [b, <- zde]
 simpa using this
theorem Yf (A:Option Addr) (n c:Nat) (ds:List Nat) (w:World) (B:Nat) (hr:zV w B 1 A n (XY ds)) (hs:zI 4294967296 ds) (hl:n<=c) (hc:c<=maxLen):
 Calls Tryz.prog 138 #[.slice A n c] w (ztn w B (val 4294967296 ds)):=by
 have b:ds.length=n:=by have:=hr.1;rw [Zh] at this;omega
 subst b
 exact zkb A c ds w B hr hs hl hc
theorem zfd (A:Option Addr) (n c:Nat) (ds:List Nat) (w:World) (B:Nat) (hr:zV w B 1 A n (XY ds)) (hs:zI 4294967296 ds) (hl:n<=c) (hc:c<=maxLen):
 Calls Tryz.prog 138 #[.slice A n c] w (zph w A c ds):=by
 have b:ds.length=n:=by have:=hr.1;rw [Zh] at this;omega
 subst b
 exact zho A c ds w B hr hs hl hc
end Go.Proofs.YthbmhkiphmcogaaGreatDoor
