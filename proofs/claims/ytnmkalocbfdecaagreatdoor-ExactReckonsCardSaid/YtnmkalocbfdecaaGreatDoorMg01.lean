/- Parts of the proof: memory, numbers, walks of the functions that are called. -/
import Init.Data.List.Lemmas
set_option linter.unusedVariables false
set_option linter.unusedSimpArgs false
namespace Go.Proofs.YtnmkalocbfdecaaGreatDoor
def val (β:Nat):List Nat->Nat
 | []=>0
 | d :: ds=>d+β*val β ds
def zE (β:Nat) (ds:List Nat):Prop:=∀ d∈ds,d<β
def y9 (β:Nat) (ds:List Nat):Prop:=zE β ds/\ds.getLast?≠some 0
theorem xN (β:Nat):val β []=0:=rfl
theorem Z9 (β d:Nat) (ds:List Nat):val β (d :: ds)=d+β*val β ds:=rfl
theorem Z5 (β d:Nat):val β [d]=d:=by simp [val]
theorem Zt (β:Nat) (a b:List Nat):val β (a ++ b)=val β a+β ^ a.length*val β b:=by
 induction a with
 | nil=>simp [val]
 | cons d a ih=>simp only [List.cons_append,Z9,ih,List.length_cons,Nat.pow_succ,Nat.mul_add,Nat.add_assoc];rw [Nat.mul_comm (β ^ a.length) β,Nat.mul_assoc]
theorem Zk (β:Nat) (a:List Nat) (d:Nat):val β (a ++ [d])=val β a+β ^ a.length*d:=by rw [Zt,Z5]
theorem Xt (β n:Nat):val β (List.replicate n 0)=0:=by
 induction n with
 | zero=>rfl
 | succ n ih=>rw [List.replicate_succ,Z9,ih];simp
theorem zE.nil (β:Nat):zE β []:=fun _ h=>by cases h
theorem zE.append {β:Nat} {a b:List Nat} (ha:zE β a) (hb:zE β b):zE β (a ++ b):=fun d h=>by
 rcases List.mem_append.1 h with h | h
 . exact ha d h
 . exact hb d h
theorem zE.cons {β d:Nat} {a:List Nat} (hd:d<β) (ha:zE β a):zE β (d :: a):=fun x h=>by
 rcases List.mem_cons.1 h with h | h
 . omega
 . exact ha x h
theorem zE.tail {β d:Nat} {a:List Nat} (h:zE β (d :: a)):zE β a:=fun x hx=>h x (List.mem_cons_of_mem _ hx)
theorem zE.head {β d:Nat} {a:List Nat} (h:zE β (d :: a)):d<β:=h d List.mem_cons_self
theorem zE.take {β:Nat} {a:List Nat} (h:zE β a) (k:Nat):zE β (a.take k):=fun d hd=>h d (List.mem_of_mem_take hd)
theorem zE.drop {β:Nat} {a:List Nat} (h:zE β a) (k:Nat):zE β (a.drop k):=fun d hd=>h d (List.mem_of_mem_drop hd)
theorem zE.getD {β:Nat} {a:List Nat} (h:zE β a) (hβ:0<β) (k:Nat):a.getD k 0<β:=by
 rw [List.getD_eq_getElem?_getD]
 by_cases hk:k<a.length
 . rw [List.getElem?_eq_getElem hk];exact h _ (List.getElem_mem hk)
 . rw [List.getElem?_eq_none (by omega)];exact hβ
theorem zE.get {β:Nat} {a:List Nat} (h:zE β a) (k:Nat) (hk:k<a.length):a[k]<β:=h _ (List.getElem_mem hk)
theorem zE.replicate {β:Nat} (hβ:0<β) (n:Nat):zE β (List.replicate n 0):=fun d hd=>by rw [(List.mem_replicate.1 hd).2];exact hβ
theorem zE.set {β:Nat} {a:List Nat} (h:zE β a) (k d:Nat) (hd:d<β):zE β (a.set k d):=fun x hx=>by
 rcases List.mem_or_eq_of_mem_set hx with hx | hx
 . exact h x hx
 . omega
theorem ZO {β:Nat} {ds:List Nat} (h:zE β ds):val β ds<β ^ ds.length:=by
 induction ds with
 | nil=>simp [val]
 | cons d ds ih=>
   have h1:=ih h.tail;have h2:=h.head;rw [Z9,List.length_cons,Nat.pow_succ];have h3:β*(val β ds+1)<=β*β ^ ds.length:=Nat.mul_le_mul_left _ h1;rw [Nat.mul_add,Nat.mul_one] at h3;rw [Nat.mul_comm (β ^ ds.length) β]
   omega
theorem yX (β:Nat) (ds:List Nat) (k:Nat) (hk:k<=ds.length):val β ds=val β (ds.take k)+β ^ k*val β (ds.drop k):=by
 conv=>lhs;rw [<- List.take_append_drop k ds,Zt,List.length_take,Nat.min_eq_left hk]
theorem Yv {α:Type} (ds:List α) (k:Nat) (hk:k<ds.length):ds.take (k+1)=ds.take k ++ [ds[k]]:=by
 rw [List.take_succ_eq_append_getElem hk]
theorem yw (β:Nat) (ds:List Nat) (k:Nat) (hk:k<ds.length):val β (ds.take (k+1))=val β (ds.take k)+β ^ k*ds[k]:=by
 rw [Yv ds k hk,Zk,List.length_take,Nat.min_eq_left (by omega)]
theorem Zj (β:Nat) (ds:List Nat) (k:Nat) (hk:k<ds.length):val β (ds.drop k)=ds[k]+β*val β (ds.drop (k+1)):=by
 rw [List.drop_eq_getElem_cons hk,Z9]
theorem y9.nil (β:Nat):y9 β []:=⟨zE.nil β,by simp⟩
theorem y9.last {β:Nat} {ds:List Nat} (h:y9 β ds) (hne:ds≠[]):ds[ds.length - 1]'(by have:=List.length_pos_iff.2 hne;omega)≠0:=by
 intro h0
 apply h.2
 rw [List.getLast?_eq_getElem?,List.getElem?_eq_getElem (by have:=List.length_pos_iff.2 hne;omega),h0]
theorem y9.mk_ {β:Nat} {ds:List Nat} (h:zE β ds) (hl:∀ hne:0<ds.length,ds[ds.length - 1]≠0):y9 β ds:=by
 refine ⟨h,?_⟩
 intro h0
 rw [List.getLast?_eq_getElem?] at h0
 obtain ⟨hlt,e⟩:=List.getElem?_eq_some_iff.1 h0
 exact hl (by omega) e
theorem y9.ge {β:Nat} {ds:List Nat} (h:y9 β ds) (hne:ds≠[]):β ^ (ds.length - 1)<=val β ds:=by
 have hp:=List.length_pos_iff.2 hne
 have hl:=h.last hne
 have e:val β ds=val β (ds.take (ds.length - 1))+β ^ (ds.length - 1)*ds[ds.length - 1]:=by
  rw [<- yw β ds (ds.length - 1) (by omega),show ds.length - 1+1=ds.length by omega,List.take_length]
 rw [e]
 have:β ^ (ds.length - 1)*1<=β ^ (ds.length - 1)*ds[ds.length - 1]:=Nat.mul_le_mul_left _ (by omega)
 omega
theorem y9.zero_iff {β:Nat} {ds:List Nat} (hβ:0<β) (h:y9 β ds):val β ds=0↔ds=[]:=by
 constructor
 . intro h0
   by_cases hne:ds=[]
   . exact hne
   . have:=h.ge hne
     have:=Nat.pow_pos (n:=ds.length - 1) hβ
     omega
 . rintro rfl;rfl
theorem y9.lt_of_length {β:Nat} {a b:List Nat} (hβ:0<β) (ha:zE β a) (hb:y9 β b) (h:a.length<b.length):val β a<val β b:=by
 have h1:=ZO ha
 have h2:=hb.ge (by intro e;subst e;simp at h)
 have h3:β ^ a.length<=β ^ (b.length - 1):=Nat.pow_le_pow_right hβ (by omega)
 omega
theorem y9.length_le {β:Nat} {a b:List Nat} (hβ:0<β) (ha:y9 β a) (hb:y9 β b) (h:val β a<=val β b):a.length<=b.length:=by
 rcases Nat.lt_or_ge b.length a.length with h1 | h1
 . have:=y9.lt_of_length hβ hb.1 ha h1;omega
 . exact h1
theorem y9.length_lt_pow {β:Nat} {a:List Nat} {k:Nat} (hβ:1<β) (ha:y9 β a) (h:val β a<β ^ k):a.length<=k:=by
 rcases Nat.lt_or_ge k a.length with h1 | h1
 . have h2:=ha.ge (by intro e;subst e;simp at h1)
   have h3:β ^ k<=β ^ (a.length - 1):=Nat.pow_le_pow_right (by omega) (by omega)
   omega
 . exact h1
theorem znl {β:Nat} {a b:List Nat} (hl:a.length=b.length) (ha:zE β a) (hb:zE β b) (h:val β a=val β b):a=b:=by
 induction a generalizing b with
 | nil=>exact (List.eq_nil_of_length_eq_zero hl.symm).symm
 | cons d a ih=>
   cases b with
   | nil=>simp at hl
   | cons c b=>
     rw [Z9,Z9] at h;have h1:=ha.head;have h2:=hb.head
     have e1:d=c:=by
      have q1:(d+β*val β a) % β=d:=by rw [Nat.add_mul_mod_self_left,Nat.mod_eq_of_lt h1]
      have q2:(c+β*val β b) % β=c:=by rw [Nat.add_mul_mod_self_left,Nat.mod_eq_of_lt h2]
      rw [<- q1, <- q2,h]
     subst e1
     have e2:val β a=val β b:=by
      have:β*val β a=β*val β b:=by omega
      exact Nat.eq_of_mul_eq_mul_left (by omega) this
     rw [ih (by simpa using hl) ha.tail hb.tail e2]
theorem y9.inj {β:Nat} {a b:List Nat} (hβ:0<β) (ha:y9 β a) (hb:y9 β b) (h:val β a=val β b):a=b:=
 znl (Nat.le_antisymm (ha.length_le hβ hb (by omega)) (hb.length_le hβ ha (by omega))) ha.1 hb.1 h
theorem Xo {β:Nat} {a b:List Nat} (hl:a.length=b.length) (ha:zE β a) (k:Nat) (hk:k<a.length)
 (hsame:∀ j (h1:j<a.length) (h2:j<b.length),k<j->a[j]=b[j]) (hlt:a[k]<b[k]'(by omega)):val β a<val β b:=by
 have e1:=yX β a k (by omega)
 have e2:=yX β b k (by omega)
 rw [Zj β a k hk] at e1
 rw [Zj β b k (by omega)] at e2
 have e3:a.drop (k+1)=b.drop (k+1):=by
  apply List.ext_getElem (by simp [hl])
  intro i h1 h2
  rw [List.getElem_drop,List.getElem_drop]
  exact hsame _ _ _ (by omega)
 rw [e3] at e1
 have h1:val β (a.take k)<β ^ k:=by
  have:=ZO (ha.take k)
  rwa [List.length_take,Nat.min_eq_left (by omega)] at this
 have h2:β ^ k*(a[k]+β*val β (b.drop (k+1))+1)<=β ^ k*(b[k]'(by omega)+β*val β (b.drop (k+1))):=Nat.mul_le_mul_left _ (by omega)
 rw [Nat.mul_add _ _ 1,Nat.mul_one] at h2
 omega
def digs (β:Nat) (n:Nat):List Nat:=if _h:β<=1\/n=0 then [] else (n % β) :: digs β (n / β)
termination_by n
decreasing_by exact Nat.div_lt_self (by omega) (by omega)
theorem v7 (β:Nat):digs β 0=[]:=by rw [digs];simp
theorem vR {β n:Nat} (hβ:1<β) (hn:0<n):digs β n=(n % β) :: digs β (n / β):=by rw [digs];rw [dif_neg (by omega)]
theorem Z4 {β:Nat} (hβ:1<β) (n:Nat):y9 β (digs β n)/\val β (digs β n)=n:=by
 induction n using Nat.strongRecOn with
 | _ n ih=>
   by_cases hn:n=0
   . subst hn;rw [v7];exact ⟨y9.nil β,rfl⟩
   . rw [vR hβ (by omega)]
     obtain ⟨h1,h2⟩:=ih (n / β) (Nat.div_lt_self (by omega) hβ);refine ⟨⟨zE.cons (Nat.mod_lt _ (by omega)) h1.1,?_⟩,?_⟩
     . by_cases hd:digs β (n / β)=[]
       . rw [hd] at h2 |-
         have h3:n / β=0:=h2.symm
         have h4:n<β:=by
          rcases Nat.lt_or_ge n β with h | h
          . exact h
          . have:=Nat.div_pos h (by omega);omega
         rw [Nat.mod_eq_of_lt h4]
         simpa using hn
       . rw [List.getLast?_cons_of_ne_nil hd]
         exact h1.2
     . rw [Z9,h2,Nat.mod_add_div]
theorem y9.digs {β:Nat} {ds:List Nat} (hβ:1<β) (h:y9 β ds):digs β (val β ds)=ds:=
 y9.inj (by omega) (Z4 hβ _).1 h (Z4 hβ _).2
def len (β n:Nat):Nat:=(digs β n).length
theorem y9.length_eq {β:Nat} {ds:List Nat} (hβ:1<β) (h:y9 β ds):ds.length=len β (val β ds):=by rw [len,h.digs hβ]
theorem xi {β:Nat} (hβ:1<β) (n:Nat):n<β ^ len β n:=by
 have h:=Z4 hβ n
 have:=ZO h.1.1
 rwa [h.2] at this
theorem ye {β n k:Nat} (hβ:1<β) (h:n<β ^ k):len β n<=k:=by
 have hs:=Z4 hβ n
 exact hs.1.length_lt_pow hβ (by rw [hs.2];exact h)
theorem yP {β m n:Nat} (hβ:1<β) (h:m<=n):len β m<=len β n:=ye hβ (Nat.lt_of_le_of_lt h (xi hβ n))
theorem YS {β:Nat} (hβ:1<β) (m n:Nat):len β (m*n)<=len β m+len β n:=by
 apply ye hβ
 rw [Nat.pow_add]
 exact Nat.mul_lt_mul'' (xi hβ m) (xi hβ n)
theorem zdw {β:Nat} (hβ:1<β) (m n:Nat):len β (m+n)<=max (len β m) (len β n)+1:=by
 apply ye hβ
 rw [Nat.pow_succ]
 have h1:=xi hβ m
 have h2:=xi hβ n
 have h3:β ^ len β m<=β ^ max (len β m) (len β n):=Nat.pow_le_pow_right (by omega) (by omega)
 have h4:β ^ len β n<=β ^ max (len β m) (len β n):=Nat.pow_le_pow_right (by omega) (by omega)
 have h5:β ^ max (len β m) (len β n)*2<=β ^ max (len β m) (len β n)*β:=Nat.mul_le_mul_left _ hβ
 omega
theorem ZZ (β:Nat):len β 0=0:=by rw [len,v7];rfl
theorem ZX {β n:Nat} (hβ:1<β) (h:0<n):0<len β n:=by rw [len,vR hβ h];simp
theorem zgg {β v1 v2 u2 top d r p ul vl u v:Nat} (ht:top=d*v1+r) (hu:u=(top*β+u2)*p+ul) (hv:v=(v1*β+v2)*p+vl) (hul:ul<p) (hlt:u<β*v)
 (h:β<=d\/r*β+u2<d*v2):u / v<d:=by
 have hvp:0<v:=by
  rcases Nat.eq_zero_or_pos v with e | e
  . rw [e] at hlt;simp at hlt
  . exact e
 rcases h with h | h
 . have:=(Nat.div_lt_iff_lt_mul hvp).2 hlt
   omega
 . rw [Nat.div_lt_iff_lt_mul hvp]
   have h1:top*β+u2+1<=d*(v1*β+v2):=by
    rw [ht,Nat.add_mul,Nat.mul_add,Nat.mul_assoc];omega
   have h2:(top*β+u2+1)*p<=d*(v1*β+v2)*p:=Nat.mul_le_mul_right _ h1;rw [Nat.add_mul _ 1 p,Nat.one_mul] at h2;have h3:d*v=d*(v1*β+v2)*p+d*vl:=by rw [hv,Nat.mul_add,Nat.mul_assoc]
   rw [h3,hu]
   omega
theorem zja {β v1 v2 u2 top d r p ul vl u v:Nat} (ht:top=d*v1+r) (hu:u=(top*β+u2)*p+ul) (hv:v=(v1*β+v2)*p+vl) (hvl:vl<p) (hlt:u<β*v)
 (hv1:1<=v1) (h:d*v2<=r*β+u2):d<=u / v+1:=by
 have hvp:0<v:=by
  rcases Nat.eq_zero_or_pos v with e | e
  . rw [e] at hlt;simp at hlt
  . exact e
 have hq:u / v<β:=(Nat.div_lt_iff_lt_mul hvp).2 hlt
 rcases Nat.lt_or_ge (u / v+1) d with hd | hd
 . exfalso
   have h1:d*(v1*β+v2)<=top*β+u2:=by
    rw [ht,Nat.add_mul,Nat.mul_add,Nat.mul_assoc];omega
   have h2:d*(v1*β+v2)*p<=(top*β+u2)*p:=Nat.mul_le_mul_right _ h1
   have h3:u<(u / v+1)*v:=by
    have:=Nat.div_add_mod u v;have:=Nat.mod_lt u hvp;rw [Nat.add_mul,Nat.one_mul,Nat.mul_comm]
    omega
   have h4:(u / v+1)*v<=(u / v+1)*((v1*β+v2+1)*p):=by
    apply Nat.mul_le_mul_left
    rw [hv,Nat.add_mul _ 1 p,Nat.one_mul];omega
   have h5:d*(v1*β+v2)*p<(u / v+1)*(v1*β+v2+1)*p:=by
    rw [Nat.mul_assoc (u / v+1)];omega
   have h6:d*(v1*β+v2)<(u / v+1)*(v1*β+v2+1):=Nat.lt_of_mul_lt_mul_right h5;have h7:(u / v+1+1)*(v1*β+v2)<=d*(v1*β+v2):=Nat.mul_le_mul_right _ (by omega);rw [Nat.add_mul (u / v+1) 1,Nat.one_mul] at h7;rw [Nat.mul_add (u / v+1) _ 1,Nat.mul_one] at h6;have h8:1*β<=v1*β:=Nat.mul_le_mul_right _ hv1
   omega
 . exact hd
theorem zdt {β v1 um un d r:Nat} (hv1:β<=2*v1) (hum:um<=v1) (hun:un<β) (hd:um*β+un=d*v1+r) (hr:r<v1):d<=β+1:=by
 rcases Nat.lt_or_ge (β+1) d with h | h
 . exfalso
   have h1:(β+2)*v1<=d*v1:=Nat.mul_le_mul_right _ (by omega);have h2:um*β<=v1*β:=Nat.mul_le_mul_right _ hum;rw [Nat.add_mul,Nat.mul_comm β v1] at h1
   omega
 . exact h
theorem zel {β v2 u2 d r:Nat} (hv2:v2<β) (hd:d<=β) (hr:β<=r):d*v2<=r*β+u2:=by
 have h1:d*v2<=β*v2:=Nat.mul_le_mul_right _ hd
 have h2:β*v2<=β*β:=Nat.mul_le_mul_left _ (by omega)
 have h3:β*β<=r*β:=Nat.mul_le_mul_right _ hr
 omega
theorem V1 {u v d u' B:Nat} (hd1:u / v<=d) (hd2:d<=u / v+1) (hv:0<v) (h:u' +d*v=u+0*B):d=u / v/\u' =u % v:=by
 have h1:=Nat.div_add_mod u v
 have h2:=Nat.mod_lt u hv
 rw [Nat.zero_mul,Nat.add_zero] at h
 have e:d=u / v:=by
  rcases Nat.lt_or_ge (u / v) d with h3 | h3
  . have e:d=u / v+1:=by omega
    rw [e,Nat.add_mul,Nat.one_mul,Nat.mul_comm] at h
    omega
  . omega
 refine ⟨e,?_⟩
 rw [e,Nat.mul_comm] at h
 omega
theorem zcm {u v d u' B:Nat} (hd1:u / v<=d) (hd2:d<=u / v+1) (hv:0<v) (hB:u' <B) (h:u' +d*v=u+1*B):d=u / v+1/\u' +v=u % v+B:=by
 have h1:=Nat.div_add_mod u v
 have h2:=Nat.mod_lt u hv
 rw [Nat.one_mul] at h
 have e:d=u / v+1:=by
  rcases Nat.lt_or_ge (u / v) d with h3 | h3
  . omega
  . have e:d=u / v:=by omega
    rw [e,Nat.mul_comm] at h
    omega
 refine ⟨e,?_⟩
 rw [e,Nat.add_mul,Nat.one_mul,Nat.mul_comm] at h
 omega
theorem zk7 {β lo un cy bo d x y s bo' P:Nat} (hβ:0<β) (hs:s+y+bo=x+bo' *β) (hy:y=(cy+d*un) % β) {L O:Nat} (hL:L+d*lo=O+(cy+bo)*P):
 (L+P*s)+d*(lo+P*un)=(O+P*x)+((cy+d*un) / β+bo')*(P*β):=by
 have h1:=Nat.div_add_mod (cy+d*un) β
 rw [<- hy] at h1
 have h2:P*(s+y+bo)=P*(x+bo' *β):=by rw [hs]
 have h3:P*(cy+d*un)=P*(β*((cy+d*un) / β)+y):=by rw [h1]
 generalize (cy+d*un) / β=q at*
 simp only [Nat.mul_add,Nat.add_mul,Nat.mul_assoc,Nat.mul_comm,Nat.mul_left_comm] at h2 h3 hL |-
 omega
theorem zd7 {β v1 v2 u2 top p ul vl u v:Nat} (hu:u=(top*β+u2)*p+ul) (hv:v=(v1*β+v2)*p+vl) (hu2:u2<β) (hul:ul<p) (hv1:0<v1):u / v<=top / v1:=by
 rw [Nat.le_div_iff_mul_le hv1]
 have h1:u<(top+1)*(β*p):=by
  have h2:(top*β+u2+1)*p<=(top+1)*β*p:=Nat.mul_le_mul_right _ (by rw [Nat.add_mul,Nat.one_mul];omega)
  rw [Nat.add_mul _ 1,Nat.one_mul] at h2
  rw [hu, <- Nat.mul_assoc];omega
 have h3:u / v*v<=u:=Nat.div_mul_le_self u v
 have h4:u / v*(v1*(β*p))<=u / v*v:=by
  apply Nat.mul_le_mul_left
  rw [hv,Nat.add_mul,Nat.mul_assoc];omega
 have h5:u / v*v1*(β*p)<(top+1)*(β*p):=by rw [Nat.mul_assoc];omega
 have:=Nat.lt_of_mul_lt_mul_right h5
 omega
theorem zkz {β v1 v2 um un u2 p ul vl u v:Nat} (hu:u=((um*β+un)*β+u2)*p+ul) (hv:v=(v1*β+v2)*p+vl) (hv2:v2<β) (hvl:vl<p) (hlt:u<β*v):um<=v1:=by
 rcases Nat.lt_or_ge v1 um with h | h
 . exfalso
   have h1:v<(v1+1)*(β*p):=by
    have h2:(v1*β+v2+1)*p<=(v1+1)*β*p:=Nat.mul_le_mul_right _ (by rw [Nat.add_mul,Nat.one_mul];omega);rw [Nat.add_mul _ 1,Nat.one_mul] at h2;rw [hv, <- Nat.mul_assoc];omega
   have h3:(v1+1)*(β*p)<=um*(β*p):=Nat.mul_le_mul_right _ h;have h4:β*v<=β*(um*(β*p)):=Nat.mul_le_mul_left _ (by omega)
   have h5:β*(um*(β*p))<=u:=by
    have e:β*(um*(β*p))=um*β*β*p:=by simp only [Nat.mul_assoc,Nat.mul_comm,Nat.mul_left_comm]
    have h6:um*β*β*p<=((um*β+un)*β+u2)*p:=Nat.mul_le_mul_right _ (by rw [Nat.add_mul];omega);rw [e,hu];omega
   omega
 . exact h
theorem zt {ds:List Nat} {k:Nat} (hk:k<ds.length):ds.getD k 0=ds[k]:=by
 rw [List.getD_eq_getElem?_getD,List.getElem?_eq_getElem hk];rfl
theorem yD {ds:List Nat} {k:Nat} (hk:ds.length<=k):ds.getD k 0=0:=by
 rw [List.getD_eq_getElem?_getD,List.getElem?_eq_none hk];rfl
theorem zJ (β:Nat) (ds:List Nat) (k:Nat):val β (ds.take (k+1))=val β (ds.take k)+β ^ k*ds.getD k 0:=by
 rcases Nat.lt_or_ge k ds.length with h | h
 . rw [zt h,yw β ds k h]
 . rw [yD h,List.take_of_length_le (by omega),List.take_of_length_le h];simp
theorem zdo (β:Nat) (ds:List Nat) (k d:Nat) (hk:k<ds.length):val β (ds.set k d)+β ^ k*ds[k]=val β ds+β ^ k*d:=by
 have e1:=yX β ds k (by omega)
 have e2:=yX β (ds.set k d) k (by simp;omega)
 rw [Zj β ds k hk] at e1
 rw [Zj β (ds.set k d) k (by simpa using hk)] at e2
 have e3:(ds.set k d).take k=ds.take k:=by rw [List.take_set_of_le (by omega)]
 have e4:(ds.set k d).drop (k+1)=ds.drop (k+1):=by rw [List.drop_set_of_lt (by omega)]
 rw [e3,e4] at e2
 simp only [List.getElem_set_self] at e2
 rw [e1,e2,Nat.mul_add,Nat.mul_add];omega
theorem zbl {β i D A B c x y:Nat} (h:D+c*β ^ i=A+B):(D+β ^ i*((c+x+y) % β))+(c+x+y) / β*β ^ (i+1)=(A+β ^ i*x)+(B+β ^ i*y):=by
 have h1:=Nat.div_add_mod (c+x+y) β
 have h2:β ^ i*(c+x+y)=β ^ i*(β*((c+x+y) / β)+(c+x+y) % β):=by rw [h1]
 generalize (c+x+y) / β=q at*
 generalize (c+x+y) % β=r at*
 rw [Nat.pow_succ]
 simp only [Nat.mul_add,Nat.add_mul,Nat.mul_assoc,Nat.mul_comm,Nat.mul_left_comm] at h2 h |-
 omega
theorem zie {β i D A B b x y s b' :Nat} (h:D+B=A+b*β ^ i) (hs:s+y+b=x+b' *β):(D+β ^ i*s)+(B+β ^ i*y)=(A+β ^ i*x)+b' *β ^ (i+1):=by
 have h2:β ^ i*(s+y+b)=β ^ i*(x+b' *β):=by rw [hs]
 rw [Nat.pow_succ]
 simp only [Nat.mul_add,Nat.add_mul,Nat.mul_assoc,Nat.mul_comm,Nat.mul_left_comm] at h2 h |-
 omega
theorem zf1 {β P k O O' c x y o Y Z:Nat} (h:O+c*(P*β ^ k)=Z+x*P*Y) (hs:O' +P*β ^ k*o=O+P*β ^ k*((c+x*y+o) % β)):
 O' +(c+x*y+o) / β*(P*β ^ (k+1))=Z+x*P*(Y+β ^ k*y):=by
 have h1:=Nat.div_add_mod (c+x*y+o) β
 have h2:P*β ^ k*(c+x*y+o)=P*β ^ k*(β*((c+x*y+o) / β)+(c+x*y+o) % β):=by rw [h1]
 generalize (c+x*y+o) / β=q at*
 generalize (c+x*y+o) % β=r at*
 rw [Nat.pow_succ]
 simp only [Nat.mul_add,Nat.add_mul,Nat.mul_assoc,Nat.mul_comm,Nat.mul_left_comm] at h2 h hs |-
 omega
theorem zc6 {β c x y o:Nat} (hc:c<β) (hx:x<β) (hy:y<β) (ho:o<β):c+x*y+o<β*β:=by
 have h1:x*y<=(β - 1)*(β - 1):=Nat.mul_le_mul (by omega) (by omega)
 obtain ⟨g,rfl⟩:∃ g,β=g+1:=⟨β - 1,by omega⟩
 simp only [Nat.add_sub_cancel] at h1
 rw [Nat.add_mul,Nat.mul_add]
 omega
theorem zfd {β d x r:Nat} (hd:0<d) (hr:r<d) (hx:x<β):(r*β+x) / d<β/\(r*β+x) % d<d:=by
 refine ⟨(Nat.div_lt_iff_lt_mul hd).2 ?_,Nat.mod_lt _ hd⟩
 have:(r+1)*β<=d*β:=Nat.mul_le_mul_right _ (by omega)
 rw [Nat.add_mul,Nat.one_mul] at this
 rw [Nat.mul_comm β d]
 omega
theorem zml {β d x r Q A:Nat} (h:A=Q*d+r):x+β*A=((r*β+x) / d+β*Q)*d+(r*β+x) % d:=by
 have h1:=Nat.div_add_mod (r*β+x) d
 have h2:(r*β+x) / d*d+(r*β+x) % d=r*β+x:=by rw [Nat.mul_comm];exact h1
 rw [h,Nat.add_mul]
 simp only [Nat.mul_add,Nat.add_mul,Nat.mul_assoc,Nat.mul_comm,Nat.mul_left_comm] at h2 |-
 omega
theorem Yx (β:Nat) (ds:List Nat) (k d:Nat) (hk:k<ds.length):val β ((ds.set k d).drop k)=d+β*val β (ds.drop (k+1)):=by
 rw [Zj β (ds.set k d) k (by simpa using hk),List.drop_set_of_lt (by omega)]
 simp only [List.getElem_set_self]
theorem zn9 {β s i D A x:Nat} {o:Nat} (h:D+β ^ i*o=A*s):(D+β ^ i*(o+x*s % β))+β ^ (i+1)*(x*s / β)=(A+β ^ i*x)*s:=by
 have h1:=Nat.div_add_mod (x*s) β
 have h2:β ^ i*(x*s)=β ^ i*(β*(x*s / β)+x*s % β):=by rw [h1]
 generalize x*s / β=q at*
 generalize x*s % β=r at*
 rw [Nat.pow_succ,Nat.add_mul]
 simp only [Nat.mul_add,Nat.add_mul,Nat.mul_assoc,Nat.mul_comm,Nat.mul_left_comm] at h2 h |-
 omega
theorem zda {n a b:Nat} (hb:b<2 ^ n):(2 ^ n*a) ||| b=2 ^ n*a+b:=(Nat.two_pow_add_eq_or_of_lt hb a).symm
theorem XK {n a b:Nat} (hb:b<2 ^ n):b ||| (2 ^ n*a)=b+2 ^ n*a:=by rw [Nat.or_comm,zda hb,Nat.add_comm]
theorem zem {s t x:Nat} (hs:0<s):x*s % (s*t)=s*(x % t):=by rw [Nat.mul_comm x s,Nat.mul_mod_mul_left]
theorem ziw {s t i A x:Nat} (hs:0<s) (ht:0<t):(A+(s*t) ^ (i+1)*x) / s=A / s+(s*t) ^ i*(t*x):=by
 have e:(s*t) ^ (i+1)*x=s*((s*t) ^ i*(t*x)):=by
  rw [Nat.pow_succ];simp only [Nat.mul_assoc,Nat.mul_comm,Nat.mul_left_comm]
 rw [e,Nat.add_mul_div_left _ _ hs]
theorem zgx {s t x:Nat} (ht:0<t):t*x=t*(x % s)+s*t*(x / s):=by
 conv=>lhs;rw [<- Nat.mod_add_div x s]
 rw [Nat.mul_add]
 simp only [Nat.mul_assoc,Nat.mul_comm,Nat.mul_left_comm]
def chr (d:Nat):UInt8:=UInt8.ofNat (48+d)
def dig (c:UInt8):Nat:=c.toNat - 48
def yC (c:UInt8):Bool:=decide (48<=c.toNat) && decide (c.toNat<=57)
def yG (l:List UInt8):Bool:=l.all yC && !l.isEmpty
def zC (l:List UInt8):Nat:=l.foldl (fun n c=>10*n+dig c) 0
def dec (n:Nat):List UInt8:=if n=0 then [48] else (digs 10 n).reverse.map chr
theorem zn5 {d:Nat} (h:d<10):dig (chr d)=d:=by
 unfold dig chr
 rw [UInt8.toNat_ofNat']
 have:(48+d) % 2 ^ 8=48+d:=Nat.mod_eq_of_lt (by omega)
 omega
theorem ziy {d:Nat} (h:d<10):yC (chr d)=true:=by
 unfold yC chr
 rw [UInt8.toNat_ofNat']
 have:(48+d) % 2 ^ 8=48+d:=Nat.mod_eq_of_lt (by omega)
 simp [this];omega
theorem zav {c:UInt8} (h:yC c=true):chr (dig c)=c:=by
 simp [yC] at h
 unfold chr dig
 apply UInt8.toNat_inj.1
 rw [UInt8.toNat_ofNat']
 have:c.toNat<2 ^ 8:=UInt8.toNat_lt c
 have:(48+(c.toNat - 48)) % 2 ^ 8=48+(c.toNat - 48):=Nat.mod_eq_of_lt (by omega)
 omega
theorem zl5 {c:UInt8} (h:yC c=true):dig c<10:=by
 simp [yC] at h;unfold dig;omega
theorem zcq {d:Nat} (h:d<10):(chr d).toNat=48+d:=by
 unfold chr;rw [UInt8.toNat_ofNat'];exact Nat.mod_eq_of_lt (by omega)
theorem zap:zC []=0:=rfl
theorem XQ (l:List UInt8):∀ n:Nat,l.foldl (fun n c=>10*n+dig c) n=n*10 ^ l.length+zC l:=by
 induction l with
 | nil=>intro n;simp [zC]
 | cons c l ih=>
   intro n
   have e:zC (c :: l)=(10*0+dig c)*10 ^ l.length+zC l:=by
    show List.foldl (fun n c=>10*n+dig c) (10*0+dig c) l=_
    exact ih _
   rw [List.foldl_cons,ih,e,List.length_cons,Nat.pow_succ];simp only [Nat.mul_add,Nat.add_mul,Nat.mul_assoc,Nat.mul_comm,Nat.mul_left_comm,Nat.mul_zero,Nat.zero_add]
   omega
theorem ZW (a b:List UInt8):zC (a ++ b)=zC a*10 ^ b.length+zC b:=by
 rw [zC,List.foldl_append,XQ b];rfl
theorem ze6 (a:List UInt8) (c:UInt8):zC (a ++ [c])=10*zC a+dig c:=by
 rw [ZW];simp [zC];omega
theorem Vx (c:UInt8) (l:List UInt8):zC (c :: l)=dig c*10 ^ l.length+zC l:=by
 rw [zC,List.foldl_cons,XQ];simp
theorem ZU (l:List UInt8):zC l=val 10 (l.reverse.map dig):=by
 induction l with
 | nil=>rfl
 | cons c l ih=>rw [Vx,List.reverse_cons,List.map_append,Zt,ih];simp [val];rw [Nat.mul_comm];omega
theorem Yy {l:List UInt8} (h:l.all yC=true):zC l<10 ^ l.length:=by
 rw [ZU]
 have hs:zE 10 (l.reverse.map dig):=by
  intro d hd
  simp at hd
  obtain ⟨c,hc,rfl⟩:=hd
  exact zl5 (List.all_eq_true.1 h c hc)
 simpa using ZO hs
theorem zao (n:Nat):zE 10 (digs 10 n):=(Z4 (by omega) n).1.1
theorem V8 (n:Nat):(dec n).all yC=true:=by
 unfold dec
 split
 . rfl
 . rw [List.all_eq_true]
   intro c hc;simp only [List.mem_map,List.mem_reverse] at hc;obtain ⟨d,hd,rfl⟩:=hc;exact ziy (zao n d hd)
theorem zov (n:Nat):dec n≠[]:=by
 unfold dec
 split
 . simp
 . rename_i h
   rw [vR (by omega) (by omega)];simp
theorem Y6 (n:Nat):yG (dec n)=true:=by
 unfold yG;rw [V8];simp [zov]
theorem vt (n:Nat):zC (dec n)=n:=by
 unfold dec
 split
 . rename_i h;subst h;decide
 . rw [ZU, <- List.map_reverse,List.reverse_reverse,List.map_map]
   have e:(digs 10 n).map (dig ∘ chr)=digs 10 n:=by
    have:∀ l:List Nat,zE 10 l->l.map (dig ∘ chr)=l:=by
     intro l
     induction l with
     | nil=>intro _;rfl
     | cons d l ih=>intro h;rw [List.map_cons,ih h.tail];simp [zn5 h.head]
    exact this _ (zao n)
   rw [e];exact (Z4 (by omega) n).2
theorem zdz {m n:Nat} (h:dec m=dec n):m=n:=by rw [<- vt m,h,vt]
theorem xG:dec 0=[48]:=by simp [dec]
theorem zlt (n:Nat) (hn:n≠0):∀ c,(dec n).head?=some c->c≠48:=by
 intro c hc
 unfold dec at hc
 rw [if_neg hn,List.head?_map,List.head?_reverse] at hc
 have hs:=Z4 (β:=10) (by omega) n
 cases hl:(digs 10 n).getLast? with
 | none=>rw [hl] at hc;cases hc
 | some d=>
   rw [hl] at hc;simp at hc;subst hc;have h1:d<10:=hs.1.1 d (List.mem_of_getLast? hl);have h2:d≠0:=fun e=>hs.1.2 (by rw [hl,e])
   intro e;have:=congrArg UInt8.toNat e;rw [zcq h1] at this;simp at this
   omega
theorem zhe {l:List UInt8} (h:yG l=true) (h0:l.head?≠some 48\/l.length=1):dec (zC l)=l:=by
 simp [yG] at h
 obtain ⟨ha,hne⟩:=h
 have hs:zE 10 (l.reverse.map dig):=by
  intro d hd
  simp at hd
  obtain ⟨c,hc,rfl⟩:=hd
  exact zl5 (ha c hc)
 have hm:∀ l:List UInt8,(∀ c∈l,yC c=true)->l.map (chr ∘ dig)=l:=by
  intro l
  induction l with
  | nil=>intro _;rfl
  | cons c l ih=>intro h;rw [List.map_cons,ih (fun c hc=>h c (List.mem_cons_of_mem _ hc))];simp [zav (h c List.mem_cons_self)]
 by_cases hz:zC l=0
 . unfold dec
   rw [if_pos hz]
   rcases h0 with h0 | h0
   . exfalso
     cases l with
     | nil=>exact hne rfl
     | cons c l=>
       simp at h0;rw [Vx] at hz;have hc:=ha c List.mem_cons_self
       have h1:dig c=0:=by
        rcases Nat.eq_zero_or_pos (dig c) with e | e
        . exact e
        . have:=Nat.mul_pos e (Nat.pow_pos (n:=l.length) (show 0<10 by omega));omega
       have h2:=zav hc;rw [h1] at h2;exact h0 h2.symm
   . match l,h0 with
     | [c],_=>
       have h1:dig c=0:=by simpa [zC] using hz
       have h2:=zav (ha c List.mem_cons_self);rw [h1] at h2;rw [<- h2];rfl
 . have hc:y9 10 (l.reverse.map dig):=by
    refine ⟨hs,?_⟩;rw [List.getLast?_map,List.getLast?_reverse]
    cases l with
    | nil=>exact absurd rfl hne
    | cons c l=>
      simp only [List.head?_cons,Option.map_some];intro e;injection e with e
      have h2:=zav (ha c List.mem_cons_self);rw [e] at h2
      rcases h0 with h0 | h0
      . apply h0;rw [<- h2];rfl
      . have:l=[]:=List.eq_nil_of_length_eq_zero (by simpa using h0)
        subst this
        apply hz
        simp [zC,e]
   unfold dec;rw [if_neg hz,ZU,hc.digs (by omega), <- List.map_reverse,List.reverse_reverse,List.map_map,hm l ha]
theorem zaj (n:Nat) (hn:n≠0):(dec n).length=len 10 n:=by unfold dec;rw [if_neg hn];simp [len]
theorem Yi {n k:Nat} (h:n<10 ^ k) (hk:0<k):(dec n).length<=k:=by
 by_cases hn:n=0
 . subst hn;rw [xG];exact hk
 . rw [zaj n hn];exact ye (by omega) h
theorem Zc {n k:Nat} (h:(dec n).length<=k):n<10 ^ k:=by
 have h1:=Yy (V8 n)
 rw [vt] at h1
 exact Nat.lt_of_lt_of_le h1 (Nat.pow_le_pow_right (by omega) h)
theorem vH {β n:Nat} (hβ:10<=β):len β n<=(dec n).length:=by
 apply ye (by omega)
 exact Nat.lt_of_lt_of_le (Zc (Nat.le_refl _)) (Nat.pow_le_pow_left hβ _)
theorem ziz {n m:Nat} {b:List Nat} (h:b ++ digs 10 m=digs 10 n) (hm:0<m):(b ++ [m % 10]) ++ digs 10 (m / 10)=digs 10 n:=by
 rw [<- h,vR (by omega) hm];simp
def X9 (β:Int):List Int->Int
 | []=>0
 | d :: ds=>d+β*X9 β ds
theorem VJ (β:Int) (a b:List Int):X9 β (a ++ b)=X9 β a+β ^ a.length*X9 β b:=by
 induction a with
 | nil=>simp [X9]
 | cons d a ih=>simp only [List.cons_append,X9,ih,List.length_cons,Int.pow_succ];rw [Int.mul_add,Int.mul_comm (β ^ a.length) β,Int.mul_assoc];omega
theorem VD (β:Nat) (ds:List Nat):X9 β (ds.map fun (d:Nat)=>(d:Int))=(val β ds:Int):=by
 induction ds with
 | nil=>rfl
 | cons d ds ih=>simp only [List.map_cons,X9,val,ih];push_cast;rfl
theorem zf6 (β:Int) (zs:List Int) (k:Nat) (d:Int) (hk:k<zs.length):X9 β (zs.set k d)=X9 β zs+β ^ k*(d - zs[k]):=by
 induction zs generalizing k with
 | nil=>simp at hk
 | cons z zs ih=>
   cases k with
   | zero=>simp [X9];omega
   | succ k=>
     simp only [List.set_cons_succ,X9,List.getElem_cons_succ];rw [ih k (by simpa using hk),Int.mul_add,Int.pow_succ, <- Int.mul_assoc,Int.mul_comm β (β ^ k)]
     omega
def Fits (lo hi:Int) (zs:List Int):Prop:=∀ z∈zs,lo<=z/\z<hi
theorem Fits.get {lo hi:Int} {zs:List Int} (h:Fits lo hi zs) {k:Nat} (hk:k<zs.length):lo<=zs[k]/\zs[k]<hi:=h _ (List.getElem_mem hk)
theorem zms {β:Int} (hβ:0<β) {zs:List Int} (h:Fits 0 β zs):0<=X9 β zs/\X9 β zs<β ^ zs.length:=by
 induction zs with
 | nil=>simp [X9]
 | cons z zs ih=>
   obtain ⟨h1,h2⟩:=h z List.mem_cons_self;obtain ⟨h3,h4⟩:=ih (fun x hx=>h x (List.mem_cons_of_mem _ hx));simp only [X9,List.length_cons,Int.pow_succ];have h5:=Int.mul_nonneg (Int.le_of_lt hβ) h3;have h6:β*(X9 β zs+1)<=β*β ^ zs.length:=Int.mul_le_mul_of_nonneg_left (by omega) (Int.le_of_lt hβ);rw [Int.mul_add,Int.mul_one] at h6;rw [Int.mul_comm (β ^ zs.length)]
   omega
theorem zkq {β:Nat} {zs:List Int} (h:Fits 0 β zs):∃ ds:List Nat,zs=(ds.map fun (d:Nat)=>(d:Int))/\zE β ds/\ds.length=zs.length:=by
 refine ⟨zs.map Int.toNat,?_,?_,by simp⟩
 . rw [List.map_map]
   conv=>lhs;rw [<- List.map_id zs]
   apply List.map_congr_left
   intro z hz;have:=(h z hz).1
   simp;omega
 . intro d hd
   obtain ⟨z,hz,rfl⟩:=List.mem_map.1 hd;have:=h z hz
   omega
def xK (da db:List Nat) (k:Nat):List Int:=(List.range da.length).map fun j=>if j<k then (da.getD j 0:Int) - db.getD j 0 else da.getD j 0
theorem xC (da db:List Nat) (k:Nat):(xK da db k).length=da.length:=by simp [xK]
theorem Z0 (da db:List Nat) (k j:Nat) (hj:j<da.length):(xK da db k)[j]'(by rw [xC];exact hj)=if j<k then (da.getD j 0:Int) - db.getD j 0 else da.getD j 0:=by simp [xK]
theorem zco (da db:List Nat):xK da db 0=da.map fun (d:Nat)=>(d:Int):=by
 apply List.ext_getElem
 . simp [xK]
 . intro j h1 h2
   rw [Z0 _ _ _ _ (by simpa using h2)];simp at h2
   simp [h2]
theorem zec (da db:List Nat) (k:Nat) (hk:k<da.length):(xK da db k).set k ((da.getD k 0:Int) - db.getD k 0)=xK da db (k+1):=by
 apply List.ext_getElem
 . simp [xK]
 . intro j h1 h2
   rw [xC] at h2;rw [Z0 _ _ _ _ h2,List.getElem_set]
   by_cases h:k=j
   . subst h;simp
   . rw [if_neg h,Z0 _ _ _ _ h2]
     by_cases h3:j<k
     . rw [if_pos h3,if_pos (by omega)]
     . rw [if_neg h3,if_neg (by omega)]
theorem zcl (β:Int) (f g:Nat->Int):∀ l:List Nat,X9 β (l.map fun j=>f j - g j)=X9 β (l.map f) - X9 β (l.map g):=by
 intro l
 induction l with
 | nil=>rfl
 | cons x l ih=>simp only [List.map_cons,X9,ih];rw [Int.mul_sub];omega
theorem zhj (da:List Nat):((List.range da.length).map fun j=>((da.getD j 0:Nat):Int))=da.map fun (d:Nat)=>(d:Int):=by
 apply List.ext_getElem
 . simp
 . intro j h1 h2
   simp at h1
   simp [h1]
theorem zhh (β:Int):∀ n,X9 β (List.replicate n 0)=0:=by
 intro n
 induction n with
 | zero=>rfl
 | succ n ih=>rw [List.replicate_succ,X9,ih];simp
theorem zgv (β:Nat) (db:List Nat) (n:Nat) (h:db.length<=n):X9 β ((List.range n).map fun j=>((db.getD j 0:Nat):Int))=val β db:=by
 obtain ⟨m,rfl⟩:∃ m,n=db.length+m:=⟨n - db.length,by omega⟩
 have e:((List.range (db.length+m)).map fun j=>((db.getD j 0:Nat):Int))=(db.map fun (d:Nat)=>(d:Int)) ++ List.replicate m 0:=by
  apply List.ext_getElem
  . simp
  . intro j h1 h2
    simp at h1;rw [List.getElem_append]
    by_cases hj:j<db.length
    . simp [hj]
    . simp [hj]
 rw [e,VJ,zhh,VD];simp
theorem zc0 (β:Nat) (da db:List Nat) (h:db.length<=da.length):X9 β (xK da db db.length)=(val β da:Int) - val β db:=by
 have e:xK da db db.length=(List.range da.length).map fun j=>((da.getD j 0:Nat):Int) - ((db.getD j 0:Nat):Int):=by
  unfold xK
  apply List.map_congr_left
  intro j _
  by_cases hj:j<db.length
  . rw [if_pos hj]
  . rw [if_neg hj,yD (ds:=db) (by omega)];simp
 rw [e,zcl,zhj,VD,zgv _ _ _ h]
theorem zb8 {β:Nat} {da db:List Nat} (hβ:0<β) (ha:zE β da) (hb:zE β db) (k:Nat):Fits (-(β:Int)) β (xK da db k):=by
 intro z hz
 obtain ⟨j,hj,rfl⟩:=List.mem_map.1 hz
 have h1:=ha.getD hβ j
 have h2:=hb.getD hβ j
 split<;>omega
def Z8 (β:Int) (zs:List Int) (k:Nat) (V:Int):Prop:=
 X9 β zs=V/\Fits 0 β (zs.take k)/\(∀ h:k<zs.length,-β<=zs[k]/\zs[k]<β)/\∀ j (h:j<zs.length),k<j-> -β<zs[j]/\zs[j]<β
theorem Z8.start {β:Nat} {da db:List Nat} (hβ:0<β) (ha:zE β da) (hb:zE β db) (h:db.length<=da.length):Z8 β (xK da db db.length) 0 ((val β da:Int) - val β db):=by
 refine ⟨zc0 β da db h,by intro z hz;simp at hz,fun h0=>(zb8 hβ ha hb _).get h0,fun j hj _=>?_⟩
 rw [xC] at hj
 rw [Z0 _ _ _ _ hj]
 have h1:=ha.getD hβ j
 have h2:=hb.getD hβ j
 split<;>omega
theorem zcg {lo hi:Int} {zs:List Int} {k:Nat} (hk:k<zs.length) (h:Fits lo hi (zs.take k)) (h1:lo<=zs[k]) (h2:zs[k]<hi):Fits lo hi (zs.take (k+1)):=by
 intro z hz
 rw [Yv _ _ hk] at hz
 rcases List.mem_append.1 hz with h3 | h3
 . exact h z h3
 . simp at h3;subst h3;exact ⟨h1,h2⟩
theorem Z8.keep {β:Int} {zs:List Int} {k:Nat} {V:Int} (h:Z8 β zs k V) (hk:k<zs.length) (h0:0<=zs[k]):Z8 β zs (k+1) V:=by
 obtain ⟨h1,h2,h3,h4⟩:=h
 refine ⟨h1,zcg hk h2 h0 (h3 hk).2,fun hk' =>?_,fun j hj hlt=>h4 j hj (by omega)⟩
 have:=h4 (k+1) hk' (by omega)
 omega
theorem Z8.more {β:Int} (hβ:0<β) {zs:List Int} {k:Nat} {V:Int} (h:Z8 β zs k V) (hV:0<=V) (hk:k<zs.length) (h0:zs[k]<0):k+1<zs.length:=by
 rcases Nat.lt_or_ge (k+1) zs.length with h5 | h5
 . exact h5
 . exfalso
   obtain ⟨h1,h2,h3,h4⟩:=h;have e:zs=zs.take k ++ [zs[k]]:=by rw [<- Yv _ _ hk,List.take_of_length_le h5]
   have h6:=VJ β (zs.take k) [zs[k]];rw [<- e,h1] at h6;simp only [X9,Int.mul_zero,Int.add_zero] at h6;have h7:=(zms hβ h2).2;have h8:β ^ (zs.take k).length*zs[k]<=β ^ (zs.take k).length*(-1):=Int.mul_le_mul_of_nonneg_left (by omega) (Int.le_of_lt (Int.pow_pos hβ))
   omega
theorem Z8.back {β:Int} (hβ:0<β) {zs:List Int} {k:Nat} {V:Int} (h:Z8 β zs k V) (hk:k+1<zs.length) (h0:zs[k]<0):
 Z8 β ((zs.set k (zs[k]+β)).set (k+1) (zs[k+1] - 1)) (k+1) V:=by
 obtain ⟨h1,h2,h3,h4⟩:=h
 have hb:=h3 (by omega)
 have hb1:=h4 (k+1) hk (by omega)
 refine ⟨?_,?_,?_,?_⟩
 . rw [zf6 _ _ _ _ (by simpa using hk),zf6 _ _ _ _ (by omega),List.getElem_set_ne (by omega),h1,Int.pow_succ]
   have e1:zs[k]+β - zs[k]=β:=by omega
   have e2:zs[k+1] - 1 - zs[k+1]= -1:=by omega
   rw [e1,e2]
   omega
 . rw [List.take_set_of_le (by omega)]
   apply zcg (by simpa using (by omega:k<zs.length))
   . rw [List.take_set_of_le (by omega)];exact h2
   . rw [List.getElem_set_self];omega
   . rw [List.getElem_set_self];omega
 . intro h5
   rw [List.getElem_set_self]
   omega
 . intro j hj hlt
   simp at hj;rw [List.getElem_set_ne (by omega),List.getElem_set_ne (by omega)];exact h4 j hj (by omega)
theorem Z8.done {β:Nat} {zs:List Int} {k:Nat} {V:Nat} (h:Z8 β zs k (V:Int)) (hk:zs.length<=k):∃ ds:List Nat,zs=(ds.map fun (d:Nat)=>(d:Int))/\zE β ds/\ds.length=zs.length/\val β ds=V:=by
 obtain ⟨h1,h2,_,_⟩:=h
 rw [List.take_of_length_le hk] at h2
 obtain ⟨ds,rfl,hs,hl⟩:=zkq h2
 refine ⟨ds,rfl,hs,hl,?_⟩
 rw [VD] at h1
 omega
def zR (q:Rat):List UInt8:=(if q.num<0 then [45] else []) ++ dec q.num.natAbs ++ (if q.den=1 then [] else 47 :: dec q.den)
def yt (M:Nat) (q:Rat):Prop:=(dec q.num.natAbs).length<=M/\(dec q.den).length<=M
instance (M:Nat) (q:Rat):Decidable (yt M q):=inferInstanceAs (Decidable (_/\_))
def zcf (l:List UInt8) (q:Rat):Prop:=l=zR q/\yt 50000 q
def yu (l:List UInt8):Bool:=l.head? == some 45
def zm (l:List UInt8):List UInt8:=if yu l then l.tail else l
def ahead (c:UInt8) (l:List UInt8):List UInt8:=l.takeWhile (· != c)
def zZ (c:UInt8) (l:List UInt8):List UInt8:=(l.dropWhile (· != c)).tail
def has (c:UInt8) (l:List UInt8):Bool:=l.contains c
def xb (neg:Bool) (n d:Nat):Rat:=Rat.divInt (if neg then -(n:Int) else n) d
theorem Yh {neg:Bool} {n d:Nat} (hc:Nat.Coprime n d) (hd:d≠0):(xb neg n d).num=(if neg then -(n:Int) else n)/\(xb neg n d).den=d:=by
 have hc' :Nat.Coprime (if neg then -(n:Int) else n).natAbs d:=by cases neg<;>simpa using hc
 have e:xb neg n d=⟨if neg then -(n:Int) else n,d,hd,hc'⟩:=by rw [Rat.mk_eq_divInt];rfl
 rw [e];exact ⟨rfl,rfl⟩
theorem Yk {l:List UInt8} (h:l.all yC=true) {c:UInt8} (hc:yC c=false):∀ x∈l,(x != c)=true:=by
 intro x hx
 have h1:=List.all_eq_true.1 h x hx
 rw [bne_iff_ne]
 rintro rfl
 rw [h1] at hc;cases hc
theorem YV:yC 47=false:=by decide
theorem zep:yC 45=false:=by decide
theorem Xp {l t:List UInt8} {p:UInt8->Bool} (h:∀ x∈l,p x=true):(l ++ t).takeWhile p=l ++ t.takeWhile p:=by
 induction l with
 | nil=>rfl
 | cons c l ih=>simp [List.takeWhile_cons,h c List.mem_cons_self,ih (fun x hx=>h x (List.mem_cons_of_mem _ hx))]
theorem zbf {l t:List UInt8} {p:UInt8->Bool} (h:∀ x∈l,p x=true):(l ++ t).dropWhile p=t.dropWhile p:=by
 induction l with
 | nil=>rfl
 | cons c l ih=>simp [List.dropWhile_cons,h c List.mem_cons_self,ih (fun x hx=>h x (List.mem_cons_of_mem _ hx))]
theorem zjp {c:UInt8} {l:List UInt8} (h:l.all yC=true) (hc:yC c=false) (t:List UInt8):ahead c (l ++ c :: t)=l:=by
 unfold ahead
 rw [Xp (Yk h hc)];simp [List.takeWhile_cons]
theorem zg5 {c:UInt8} {l:List UInt8} (h:l.all yC=true) (hc:yC c=false) (t:List UInt8):zZ c (l ++ c :: t)=t:=by
 unfold zZ
 rw [zbf (Yk h hc)];simp [List.dropWhile_cons]
theorem zn7 (c:UInt8) (l t:List UInt8):has c (l ++ c :: t)=true:=by unfold has;simp
theorem Y8 {c:UInt8} {l:List UInt8} (h:has c l=false):ahead c l=l:=by
 unfold has at h;unfold ahead
 have h' :c ∉ l:=by simpa using h
 have:=Xp (l:=l) (t:=[]) (p:=(· != c)) (by
  intro a ha
  rw [bne_iff_ne]
  rintro rfl
  exact h' ha)
 simpa using this
theorem zgn {c:UInt8} {l:List UInt8} (h:l.all yC=true) (hc:yC c=false):has c l=false:=by
 unfold has
 rw [Bool.eq_false_iff]
 intro h1
 have h2:=List.contains_iff_mem.1 h1
 have:=List.all_eq_true.1 h c h2
 rw [this] at hc;cases hc
theorem zhw {c:UInt8} {l:List UInt8} (h:has c l=true):l=ahead c l ++ c :: zZ c l:=by
 unfold has at h;unfold ahead zZ
 have h1:c∈l:=List.contains_iff_mem.1 h
 have e:(l.dropWhile (· != c)).head?=some c:=by
  cases hd:l.dropWhile (· != c) with
  | nil=>
    have h2:=List.takeWhile_append_dropWhile (p:=(· != c)) (l:=l);rw [hd,List.append_nil] at h2;rw [<- h2] at h1;have:=List.all_eq_true.1 (List.all_takeWhile (p:=(· != c)) (l:=l)) c h1;simp at this
  | cons a t=>
    have:=List.head?_dropWhile_not (· != c) l;rw [hd] at this;simp at this;rw [this];rfl
 cases hd:l.dropWhile (· != c) with
 | nil=>rw [hd] at e;cases e
 | cons a t=>
   rw [hd] at e;injection e with e
   subst e;have:=List.takeWhile_append_dropWhile (p:=(· != a)) (l:=l);rw [hd] at this;exact this.symm
theorem ZC {l:List UInt8} (h:yu l=false):zm l=l:=by unfold zm;rw [h];rfl
theorem Y3 {l:List UInt8} (h:yu l=true):l=45 :: zm l:=by
 unfold zm;rw [h]
 unfold yu at h
 cases l with
 | nil=>simp at h
 | cons c l=>simp at h;subst h;rfl
theorem zmw (l:List UInt8):l=(if yu l then [45] else []) ++ zm l:=by
 by_cases h:yu l=true
 . rw [if_pos h];exact Y3 h
 . rw [if_neg h,ZC (by simpa using h)];rfl
theorem zaw {l t:List UInt8} (h:yG l=true):yu (l ++ t)=false:=by
 simp [yG] at h
 unfold yu
 cases l with
 | nil=>simp at h
 | cons c l=>
   have hc:=h.1 c List.mem_cons_self
   simp
   rintro rfl
   simp [zep] at hc
theorem za2 {l:List UInt8} {q:Rat} (h:l=zR q):yu l=decide (q.num<0)/\ahead 47 (zm l)=dec q.num.natAbs/\has 47 (zm l)=decide (q.den≠1)/\
 (q.den≠1->zZ 47 (zm l)=dec q.den):=by
 have hn:yu (dec q.num.natAbs ++ (if q.den=1 then [] else 47 :: dec q.den))=false:=zaw (Y6 _)
 have hs:yu l=decide (q.num<0):=by
  rw [h,zR,List.append_assoc]
  by_cases h0:q.num<0
  . rw [if_pos h0];simp [yu,h0]
  . rw [if_neg h0,List.nil_append,hn];simp [h0]
 have hu:zm l=dec q.num.natAbs ++ (if q.den=1 then [] else 47 :: dec q.den):=by
  by_cases h0:q.num<0
  . have:=Y3 (l:=l) (by rw [hs];simpa using h0)
    rw [h,zR,if_pos h0] at this;simp only [List.cons_append,List.nil_append,List.cons.injEq,true_and] at this;rw [h,zR,if_pos h0];simp only [List.cons_append,List.nil_append];rw [<- this]
  . rw [ZC (by rw [hs];simpa using h0),h,zR,if_neg h0,List.nil_append]
 refine ⟨hs,?_⟩
 rw [hu]
 by_cases hd:q.den=1
 . rw [if_pos hd,List.append_nil]
   have hh:=zgn (V8 q.num.natAbs) YV;refine ⟨Y8 hh,?_,fun h=>absurd hd h⟩;rw [hh];simp [hd]
 . rw [if_neg hd]
   exact ⟨zjp (V8 _) YV _,by rw [zn7];simp [hd],fun _=>zg5 (V8 _) YV _⟩
def zU (l:List UInt8):Bool:=yG l && (l.head? != some 48 || l.length == 1) && decide (l.length<=50000)
theorem zdd {n:Nat} (h:(dec n).length<=50000):zU (dec n)=true:=by
 unfold zU
 rw [Y6]
 by_cases hn:n=0
 . subst hn;rw [xG];decide
 . have h1:((dec n).head? != some 48)=true:=by
    rw [bne_iff_ne];intro h2;exact zlt n hn 48 h2 rfl
   rw [h1];simp [h]
theorem Zv {l:List UInt8} (h:zU l=true):dec (zC l)=l/\l.length<=50000/\yG l=true:=by
 unfold zU at h
 simp only [Bool.and_eq_true,Bool.or_eq_true,bne_iff_ne,ne_eq,beq_iff_eq,decide_eq_true_eq] at h
 exact ⟨zhe h.1.1 h.1.2,h.2,h.1.1⟩
theorem Xg {l:List UInt8} (hn:zU (ahead 47 (zm l))=true) (h0:yu l=true->ahead 47 (zm l)≠[48])
 (hd:has 47 (zm l)=true->zU (zZ 47 (zm l))=true/\zZ 47 (zm l)≠[48]/\zZ 47 (zm l)≠[49]/\
   Nat.Coprime (zC (ahead 47 (zm l))) (zC (zZ 47 (zm l)))):
 zcf l (xb (yu l) (zC (ahead 47 (zm l))) (if has 47 (zm l) then zC (zZ 47 (zm l)) else 1)):=by
 obtain ⟨e1,l1,_⟩:=Zv hn
 have hl:=zmw l
 generalize hs:yu l=s at*
 generalize hu:zm l=u at*
 have hneg:s=true->zC (ahead 47 u)≠0:=by
  intro hs' h
  rw [h,xG] at e1
  exact h0 hs' e1.symm
 by_cases hh:has 47 u=true
 . obtain ⟨hd1,hd2,hd3,hc⟩:=hd hh
   obtain ⟨e2,l2,_⟩:=Zv hd1
   have hz:zC (zZ 47 u)≠0:=by
    intro h;rw [h,xG] at e2;exact hd2 e2.symm
   have h1:zC (zZ 47 u)≠1:=by
    intro h;rw [h] at e2;exact hd3 (by rw [<- e2];simp [dec,vR (β:=10) (n:=1) (by omega) (by omega),v7];decide)
   rw [if_pos hh];obtain ⟨p1,p2⟩:=Yh (neg:=s) hc hz;have p3:(xb s (zC (ahead 47 u)) (zC (zZ 47 u))).num.natAbs=zC (ahead 47 u):=by rw [p1];cases s<;>simp
   refine ⟨?_,by unfold yt;rw [p2,p3,e1,e2];exact ⟨l1,l2⟩⟩;unfold zR;rw [p2,p3,e1,e2,if_neg h1,p1,hl];rw [List.append_assoc]
   congr 1
   . cases s with
     | false=>rw [if_neg (by simp),if_neg (by simp)]
     | true=>rw [if_pos rfl,if_pos rfl,if_pos (by have:=hneg rfl;omega)]
   . exact zhw hh
 . rw [if_neg hh]
   have hh' :has 47 u=false:=by simpa using hh
   have eu:=Y8 hh';obtain ⟨p1,p2⟩:=Yh (neg:=s) (n:=zC (ahead 47 u)) (d:=1) (by simp) (by omega);have p3:(xb s (zC (ahead 47 u)) 1).num.natAbs=zC (ahead 47 u):=by rw [p1];cases s<;>simp
   refine ⟨?_,by
    unfold yt;rw [p2,p3,e1]
    exact ⟨l1,by simp [dec,vR (β:=10) (n:=1) (by omega) (by omega),v7]⟩⟩
   unfold zR;rw [p2,p3,e1,p1,hl,if_pos rfl,List.append_nil,eu]
   congr 1
   cases s with
   | false=>rw [if_neg (by simp),if_neg (by simp)]
   | true=>rw [if_pos rfl,if_pos rfl,if_pos (by have:=hneg rfl;rw [eu] at this;omega)]
theorem zd8:dec 1=[49]:=by simp [dec,vR (β:=10) (n:=1) (by omega) (by omega),v7];decide
theorem vC {l:List UInt8} {q:Rat} (h:zcf l q):
 zU (ahead 47 (zm l))=true/\(yu l=true->ahead 47 (zm l)≠[48])/\
 (has 47 (zm l)=true->zU (zZ 47 (zm l))=true/\zZ 47 (zm l)≠[48]/\zZ 47 (zm l)≠[49]/\
   ahead 47 (zm l)≠[48]/\Nat.Coprime (zC (ahead 47 (zm l))) (zC (zZ 47 (zm l))))/\
 q=xb (yu l) (zC (ahead 47 (zm l))) (if has 47 (zm l) then zC (zZ 47 (zm l)) else 1):=by
 obtain ⟨h1,h2,h3,h4⟩:=za2 h.1
 have hsh:=h.2
 have hz:dec q.num.natAbs=[48]->q.num=0:=by
  intro e
  have:q.num.natAbs=0:=zdz (e.trans xG.symm)
  omega
 have hnum:q.num=if decide (q.num<0)=true then -(q.num.natAbs:Int) else q.num.natAbs:=by
  by_cases h0:q.num<0
  . simp [h0];omega
  . simp [h0];omega
 refine ⟨by rw [h2];exact zdd hsh.1,?_,?_,?_⟩
 . rw [h1,h2]
   intro h0 e;have:=hz e;simp at h0
   omega
 . rw [h3]
   intro hd;have hd' :q.den≠1:=by simpa using hd
   rw [h2,h4 hd',vt,vt];refine ⟨zdd hsh.2,?_,?_,?_,q.reduced⟩
   . intro e;exact q.den_nz (zdz (e.trans xG.symm))
   . intro e;exact hd' (zdz (e.trans zd8.symm))
   . intro e
     have h0:=hz e;have:=q.reduced;rw [h0] at this;simp at this;exact hd' this
 . rw [h1,h2,h3,vt]
   by_cases hd:q.den=1
   . have:decide (q.den≠1)=false:=by simp [hd]
     rw [this,if_neg (by simp),xb, <- hnum]
     conv=>lhs;rw [<- Rat.num_divInt_den q,hd]
   . have:decide (q.den≠1)=true:=by simp [hd]
     rw [this,if_pos rfl,h4 hd,vt,xb, <- hnum,Rat.num_divInt_den]
def zj (l:List UInt8):Option Rat:=
 let q:=xb (yu l) (zC (ahead 47 (zm l))) (if has 47 (zm l) then zC (zZ 47 (zm l)) else 1)
 if l=zR q/\yt 50000 q then some q else none
theorem ys {l:List UInt8} {q:Rat}:zj l=some q↔zcf l q:=by
 unfold zj
 constructor
 . intro h
   simp only at h;generalize xb (yu l) (zC (ahead 47 (zm l))) (if has 47 (zm l) then zC (zZ 47 (zm l)) else 1)=r at h
   split at h
   . rename_i h1;injection h with h;subst h;exact h1
   . cases h
 . intro h
   have e:=(vC h).2.2.2
   simp only
   rw [<- e];exact if_pos h
theorem xS {l:List UInt8}:zj l=none↔∀ q,¬ zcf l q:=by
 constructor
 . intro h q hq;rw [ys.2 hq] at h;cases h
 . intro h
   cases hr:zj l with
   | none=>rfl
   | some q=>exact absurd (ys.1 hr) (h q)
theorem ZS {q:Rat} (h:yt 50000 q):zj (zR q)=some q:=ys.2 ⟨rfl,h⟩
theorem zki {l:List UInt8} (h:zU (ahead 47 (zm l))=false):zj l=none:=by
 rw [xS]
 intro q hq
 have:=(vC hq).1
 rw [h] at this;cases this
theorem zku {l:List UInt8} (h:yu l=true) (h0:ahead 47 (zm l)=[48]):zj l=none:=by
 rw [xS]
 intro q hq
 exact (vC hq).2.1 h h0
theorem vP {l:List UInt8} (h:has 47 (zm l)=true) (h0:zU (zZ 47 (zm l))=false\/zZ 47 (zm l)=[48]\/zZ 47 (zm l)=[49]\/ahead 47 (zm l)=[48]):zj l=none:=by
 rw [xS]
 intro q hq
 obtain ⟨h1,h2,h3,h4,_⟩:=(vC hq).2.2.1 h
 rcases h0 with h0 | h0 | h0 | h0
 . rw [h0] at h1;cases h1
 . exact h2 h0
 . exact h3 h0
 . exact h4 h0
theorem ZR (s:Bool) (n:Nat):(xb s n 1).num=(if s then -(n:Int) else n)/\(xb s n 1).den=1:=Yh (by simp) (by omega)
theorem XG {l:List UInt8} (h:zU (ahead 47 (zm l))=true) (h0:yu l=true->ahead 47 (zm l)≠[48]) (hh:has 47 (zm l)=false):zj l=some (xb (yu l) (zC (ahead 47 (zm l))) 1):=by
 rw [ys]
 have:=Xg h h0 (by rw [hh];intro h;cases h)
 rw [hh] at this
 simpa using this
theorem VQ {s:Bool} {n d:Nat} (hd:d≠0) (h:(xb s n d).den=d):Nat.Coprime n d:=by
 unfold xb at h
 rw [Rat.den_divInt,if_neg (by omega)] at h
 have hg:(d:Int).gcd (if s then -(n:Int) else n)=Nat.gcd n d:=by
  cases s<;>simp [Int.gcd,Nat.gcd_comm]
 rw [hg] at h
 have h1:0<Nat.gcd n d:=Nat.gcd_pos_of_pos_right _ (by omega)
 have h2:Nat.gcd n d ∣ d:=Nat.gcd_dvd_right n d
 obtain ⟨k,hk⟩:=h2
 have h3:d / Nat.gcd n d=k:=by
  conv=>lhs;lhs;rw [hk]
  exact Nat.mul_div_cancel_left _ h1
 have h4:(d:Int).natAbs=d:=Int.natAbs_natCast d
 rw [h4,h3] at h
 have h5:Nat.gcd n d*d=1*d:=by rw [Nat.one_mul];conv=>lhs;rhs;rw [<- h]
                               exact hk.symm
 exact Nat.eq_of_mul_eq_mul_right (by omega) h5
theorem zcs {l:List UInt8} (h:zU (ahead 47 (zm l))=true) (h0:yu l=true->ahead 47 (zm l)≠[48]) (hh:has 47 (zm l)=true)
 (h1:zU (zZ 47 (zm l))=true) (h2:zZ 47 (zm l)≠[48]) (h3:zZ 47 (zm l)≠[49]):
 zj l=if (xb (yu l) (zC (ahead 47 (zm l))) (zC (zZ 47 (zm l)))).den=zC (zZ 47 (zm l)) then some (xb (yu l) (zC (ahead 47 (zm l))) (zC (zZ 47 (zm l)))) else none:=by
 have hz:zC (zZ 47 (zm l))≠0:=by
  intro e
  have:=(Zv h1).1
  rw [e,xG] at this
  exact h2 this.symm
 split
 . rename_i hd
   rw [ys];have:=Xg h h0 (fun _=>⟨h1,h2,h3,VQ hz hd⟩);rw [hh] at this
   simpa using this
 . rename_i hd
   rw [xS];intro q hq
   apply hd
   exact (Yh ((vC hq).2.2.1 hh).2.2.2.2 hz).2
theorem Xs {l:List UInt8} (h1:zU l=true) (h2:l≠[48]):zC l≠0:=by
 intro e
 have:=(Zv h1).1
 rw [e,xG] at this
 exact h2 this.symm
theorem Xu {l:List UInt8} (h:zU l=true):len 4294967296 (zC l)<=50000:=by
 obtain ⟨h1,h2,h3⟩:=Zv h
 have h4:=vH (β:=4294967296) (n:=zC l) (by omega)
 rw [h1] at h4
 omega
theorem Z1 {l:List UInt8} (h:zU l=true):l.all yC=true/\l.length<=50000:=by
 obtain ⟨h1,h2,h3⟩:=Zv h
 unfold yG at h3
 rw [Bool.and_eq_true] at h3
 exact ⟨h3.1,h2⟩
theorem yt.len {M:Nat} {q:Rat} (h:yt M q):Go.Proofs.YtnmkalocbfdecaaGreatDoor.len 4294967296 q.num.natAbs<=M/\Go.Proofs.YtnmkalocbfdecaaGreatDoor.len 4294967296 (q.den:Int).natAbs<=M:=
 ⟨Nat.le_trans (vH (by omega)) h.1,by rw [Int.natAbs_natCast];exact Nat.le_trans (vH (by omega)) h.2⟩
def xk (l:List UInt8):List UInt8:=if has 47 (zm l) then zZ 47 (zm l) else [49]
theorem zdl {q:Rat} (h:yt 50000 q):(zR q).length<=100002:=by
 obtain ⟨h1,h2⟩:=h
 unfold zR
 rw [List.length_append,List.length_append]
 have e1:(if q.num<0 then ([45]:List UInt8) else []).length<=1:=by split<;>simp
 have e2:(if q.den=1 then ([]:List UInt8) else 47 :: dec q.den).length<=50001:=by split<;>simp;omega
 omega
theorem zjc {l:List UInt8} (h:100002<l.length):zj l=none:=by
 rw [xS]
 rintro q ⟨rfl,h2⟩
 have:=zdl h2
 omega
theorem zgf {l:List UInt8} {q:Rat} (h:zcf l q):ahead 47 (zm l)=dec q.num.natAbs/\xk l=dec q.den:=by
 obtain ⟨h1,h2,h3,h4⟩:=za2 h.1
 refine ⟨h2,?_⟩
 unfold xk
 rw [h3]
 by_cases hd:q.den=1
 . rw [hd,zd8];simp
 . rw [if_pos (by simpa using hd),h4 hd]
theorem ZF {l:List UInt8} (h:yG (ahead 47 (zm l))=false\/yG (xk l)=false\/50000<(ahead 47 (zm l)).length\/50000<(xk l).length\/zC (xk l)=0):zj l=none:=by
 rw [xS]
 intro q hq
 obtain ⟨h1,h2⟩:=zgf hq
 rw [h1,h2] at h
 obtain ⟨_,h3,h4⟩:=hq
 rcases h with h | h | h | h | h
 . rw [Y6] at h;cases h
 . rw [Y6] at h;cases h
 . omega
 . omega
 . rw [vt] at h;exact q.den_nz h
theorem zlz (l:List UInt8):(if has 47 (zm l) then zC (zZ 47 (zm l)) else 1)=zC (xk l):=by
 unfold xk
 split
 . rfl
 . rfl
theorem zi3 {l:List UInt8} (h1:yG (ahead 47 (zm l))=true) (h2:yG (xk l)=true) (h3:(ahead 47 (zm l)).length<=50000) (h4:(xk l).length<=50000):
 zj l=if zR (xb (yu l) (zC (ahead 47 (zm l))) (zC (xk l)))=l then some (xb (yu l) (zC (ahead 47 (zm l))) (zC (xk l))) else none:=by
 unfold zj
 rw [zlz]
 simp only
 generalize hq:xb (yu l) (zC (ahead 47 (zm l))) (zC (xk l))=q
 by_cases he:zR q=l
 . rw [if_pos he]
   have hs:yt 50000 q:=by
    obtain ⟨e1,e2,e3,e4⟩:=za2 he.symm
    constructor
    . rw [<- e2];exact h3
    . by_cases hd:q.den=1
      . rw [hd,zd8];decide
      . rw [<- e4 hd]
        unfold xk at h4;rw [e3,if_pos (by simpa using hd)] at h4;exact h4
   rw [if_pos ⟨he.symm,hs⟩]
 . rw [if_neg he,if_neg (fun h=>he h.1.symm)]
def zbn (b:Bool) (n:Nat):Int:=if b then -(n:Int) else n
theorem ZM (b:Bool) (n d:Nat):xb b n d=Rat.divInt (zbn b n) d:=rfl
theorem Xj (x:Rat):x.num=zbn (decide (x.num<0)) x.num.natAbs:=by
 unfold zbn
 by_cases h:x.num<0
 . rw [decide_eq_true h,if_pos rfl];omega
 . rw [decide_eq_false h,if_neg (by decide)];omega
theorem vk (x:Rat):Rat.divInt x.num x.den=x:=Rat.num_divInt_den x
theorem zkf (x:Rat):x=Rat.divInt (zbn (decide (x.num<0)) x.num.natAbs) x.den:=by
 rw [<- Xj]
 exact (vk x).symm
theorem zfw (a b:Bool) (n m:Nat):zbn a n*zbn b m=zbn (a != b) (n*m):=by
 unfold zbn
 cases a<;>cases b<;>simp [Int.neg_mul,Int.mul_neg]
theorem zn3 (x y:Rat):x*y=xb (decide (x.num<0) != decide (y.num<0)) (x.num.natAbs*y.num.natAbs) (x.den*y.den):=by
 rw [ZM, <- zfw, <- Xj, <- Xj,Int.natCast_mul, <- Rat.divInt_mul_divInt,vk,vk]
theorem zmj (y:Rat):y⁻¹=Rat.divInt (zbn (decide (y.num<0)) y.den) y.num.natAbs:=by
 conv=>lhs;rw [<- vk y,Rat.inv_divInt]
 unfold zbn
 by_cases h:y.num<0
 . rw [decide_eq_true h,if_pos rfl]
   have:y.num= -((y.num.natAbs:Nat):Int):=by omega
   conv=>lhs;rw [this,Rat.divInt_neg']
 . rw [decide_eq_false h,if_neg (by decide)]
   have:y.num=((y.num.natAbs:Nat):Int):=by omega
   conv=>lhs;rw [this]
theorem zns (x y:Rat):x / y=xb (decide (x.num<0) != decide (y.num<0)) (x.num.natAbs*y.den) (x.den*y.num.natAbs):=by
 rw [Rat.div_def,zmj,ZM, <- zfw,Int.natCast_mul, <- Rat.divInt_mul_divInt, <- zkf]
theorem zdu (x y:Rat):x+y=Rat.divInt (zbn (decide (x.num<0)) (x.num.natAbs*y.den)+zbn (decide (y.num<0)) (y.num.natAbs*x.den)) ((x.den*y.den:Nat):Int):=by
 have e1:zbn (decide (x.num<0)) (x.num.natAbs*y.den)=x.num*y.den:=by
  conv=>rhs;rw [Xj x]
  unfold zbn;split<;>simp [Int.neg_mul]
 have e2:zbn (decide (y.num<0)) (y.num.natAbs*x.den)=y.num*x.den:=by
  conv=>rhs;rw [Xj y]
  unfold zbn;split<;>simp [Int.neg_mul]
 rw [e1,e2]
 conv=>lhs;rw [<- vk x, <- vk y]
 rw [Rat.divInt_add_divInt _ _ (by have:=x.den_nz;omega) (by have:=y.den_nz;omega),Int.natCast_mul]
theorem zbx {x y:Rat} (h:decide (x.num<0)=decide (y.num<0)):x+y=xb (decide (x.num<0)) (x.num.natAbs*y.den+y.num.natAbs*x.den) (x.den*y.den):=by
 rw [zdu,ZM, <- h]
 congr 1
 unfold zbn;split<;>push_cast<;>omega
theorem zgi {x y:Rat} (h:decide (x.num<0)≠decide (y.num<0)) (hle:y.num.natAbs*x.den<=x.num.natAbs*y.den):x+y=xb (decide (x.num<0)) (x.num.natAbs*y.den - y.num.natAbs*x.den) (x.den*y.den):=by
 rw [zdu,ZM]
 congr 1
 generalize x.num.natAbs*y.den=a at*
 generalize y.num.natAbs*x.den=b at*
 cases hx:decide (x.num<0)<;>cases hy:decide (y.num<0)<;>simp [hx,hy] at h<;>simp [zbn]<;>omega
theorem zg3 {x y:Rat} (h:decide (x.num<0)≠decide (y.num<0)) (hle:x.num.natAbs*y.den<y.num.natAbs*x.den):x+y=xb (decide (y.num<0)) (y.num.natAbs*x.den - x.num.natAbs*y.den) (x.den*y.den):=by
 rw [zdu,ZM]
 congr 1
 generalize x.num.natAbs*y.den=a at*
 generalize y.num.natAbs*x.den=b at*
 cases hx:decide (x.num<0)<;>cases hy:decide (y.num<0)<;>simp [hx,hy] at h<;>simp [zbn]<;>omega
theorem zef {a:Int} (h:a≠0):(a:Rat)≠0:=by
 intro e
 exact h (by exact_mod_cast e)
def Sz (X:Nat) (q:Rat):Prop:=q.num.natAbs<=X/\q.den<=X
theorem Sz.mono {X Y:Nat} {q:Rat} (h:Sz X q) (hXY:X<=Y):Sz Y q:=⟨Nat.le_trans h.1 hXY,Nat.le_trans h.2 hXY⟩
theorem zoa {X:Nat} {q:Rat} {s M:Int} (hs:s≠0) (h:q*s=M) (h1:M.natAbs<=X) (h2:s.natAbs<=X):Sz X q:=by
 have e:q=Rat.divInt M s:=by
  have h3:=zef hs
  rw [Rat.divInt_eq_div, <- h]
  grind
 have hg:(s.gcd M:Int) ∣ s.sign*M:=Int.dvd_trans (Int.gcd_dvd_right s M) (Int.dvd_mul_left _ _)
 have hg0:0<s.gcd M:=Int.gcd_pos_of_ne_zero_left _ hs
 have hsn:(s.sign*M).natAbs<=M.natAbs:=by
  rw [Int.natAbs_mul,Int.natAbs_sign,if_neg hs];omega
 constructor
 . rw [e,Rat.num_divInt]
   obtain ⟨t,ht⟩:=hg;rw [ht,Int.mul_ediv_cancel_left _ (by omega)];rw [ht,Int.natAbs_mul] at hsn;have h3:t.natAbs<=(s.gcd M:Int).natAbs*t.natAbs:=Nat.le_mul_of_pos_left _ (by simpa using hg0)
   omega
 . rw [e,Rat.den_divInt,if_neg hs]
   exact Nat.le_trans (Nat.div_le_self _ _) h2
theorem zeo (q:Rat):((q.den:Int):Rat)≠0:=zef (by have:=q.den_nz;omega)
theorem zbh (q:Rat):q*((q.den:Int):Rat)=(q.num:Rat):=by
 have h:=zeo q
 conv=>lhs;lhs;rw [<- Rat.num_divInt_den q]
 rw [Rat.divInt_eq_div]
 grind
theorem Sz.zero:Sz 1 0:=⟨by decide,by decide⟩
theorem Sz.neg {X:Nat} {q:Rat} (h:Sz X q):Sz X (-q):=⟨by rw [Rat.neg_num,Int.natAbs_neg];exact h.1,by rw [Rat.neg_den];exact h.2⟩
theorem Sz.mul {X Y:Nat} {p q:Rat} (hp:Sz X p) (hq:Sz Y q):Sz (X*Y) (p*q):=by
 refine zoa (s:=(p.den:Int)*q.den) (M:=p.num*q.num) (Int.mul_ne_zero (by have:=p.den_nz;omega) (by have:=q.den_nz;omega)) ?_ ?_ ?_
 . have h1:=zbh p
   have h2:=zbh q
   push_cast at h1 h2 |-
   rw [<- h1, <- h2];grind
 . rw [Int.natAbs_mul];exact Nat.mul_le_mul hp.1 hq.1
 . rw [Int.natAbs_mul];exact Nat.mul_le_mul (by simpa using hp.2) (by simpa using hq.2)
theorem Sz.add {X Y:Nat} {p q:Rat} (hp:Sz X p) (hq:Sz Y q):Sz (2*(X*Y)) (p+q):=by
 refine zoa (s:=(p.den:Int)*q.den) (M:=p.num*q.den+q.num*p.den) (Int.mul_ne_zero (by have:=p.den_nz;omega) (by have:=q.den_nz;omega)) ?_ ?_ ?_
 . have h1:=zbh p
   have h2:=zbh q
   push_cast at h1 h2 |-
   rw [<- h1, <- h2];grind
 . have h1:(p.num*q.den+q.num*p.den).natAbs<=(p.num*q.den).natAbs+(q.num*p.den).natAbs:=by omega
   rw [Int.natAbs_mul,Int.natAbs_mul] at h1;have h2:=Nat.mul_le_mul hp.1 (show (q.den:Int).natAbs<=Y by simpa using hq.2);have h3:=Nat.mul_le_mul hq.1 (show (p.den:Int).natAbs<=X by simpa using hp.2);rw [Nat.mul_comm Y X] at h3
   omega
 . rw [Int.natAbs_mul]
   have:=Nat.mul_le_mul (show (p.den:Int).natAbs<=X by simpa using hp.2) (show (q.den:Int).natAbs<=Y by simpa using hq.2)
   omega
theorem Sz.short {X e:Nat} {q:Rat} (h:Sz X q) (hX:X<10 ^ e) (he:0<e):yt e q:=⟨Yi (by have:=h.1;omega) he,Yi (by have:=h.2;omega) he⟩
theorem yt.sz {e:Nat} {q:Rat} (h:yt e q):Sz (10 ^ e) q:=⟨Nat.le_of_lt (Zc h.1),Nat.le_of_lt (Zc h.2)⟩
abbrev Dz (e:Nat) (q:Rat):Prop:=Sz (10 ^ e) q
theorem Dz.add {e f g:Nat} {p q:Rat} (hp:Dz e p) (hq:Dz f q) (hg:e+f+1<=g):Dz g (p+q):=by
 refine (Sz.add hp hq).mono ?_
 have h1:10 ^ (e+f+1)<=10 ^ g:=Nat.pow_le_pow_right (by omega) hg
 rw [Nat.pow_succ,Nat.pow_add] at h1
 omega
theorem Dz.sub {e f g:Nat} {p q:Rat} (hp:Dz e p) (hq:Dz f q) (hg:e+f+1<=g):Dz g (p - q):=by rw [Rat.sub_eq_add_neg];exact Dz.add hp (Sz.neg hq) hg
theorem Dz.mul {e f g:Nat} {p q:Rat} (hp:Dz e p) (hq:Dz f q) (hg:e+f<=g):Dz g (p*q):=by
 refine (Sz.mul hp hq).mono ?_
 rw [<- Nat.pow_add]
 exact Nat.pow_le_pow_right (by omega) hg
theorem Dz.more {e f:Nat} {q:Rat} (h:Dz e q) (hf:e<=f):Dz f q:=h.mono (Nat.pow_le_pow_right (by omega) hf)
theorem Dz.short {e f:Nat} {q:Rat} (h:Dz e q) (hf:e<f):yt f q:=Sz.short h (Nat.pow_lt_pow_right (by omega) hf) (by omega)
theorem Dz.zero (e:Nat):Dz e 0:=Sz.zero.mono (Nat.pow_pos (by omega))
structure ym where
 den:Int
 cell:Nat->Nat->Int
 basic:Nat->Nat
 other:Nat->Nat
def ym.bare (T:ym) (r c:Nat):Nat->Nat->Int:=fun i k=>
 if i=r then (if k=c then T.den else -(T.cell r k)) else if k=c then T.cell i c else (T.cell i k*T.cell r c - T.cell i c*T.cell r k).tdiv T.den
def ym.pivot (T:ym) (r c:Nat):ym:=
 { den:=if T.cell r c<0 then -(T.cell r c) else T.cell r c,
      cell:=fun i k=>if T.cell r c<0 then -(T.bare r c i k) else T.bare r c i k,
      basic:=fun i=>if i=r then T.other (c - 1) else T.basic i,
      other:=fun k=>if k=c - 1 then T.basic r else T.other k }
def ym.enter (T:ym) (m:Nat) (but:Int):Nat->Nat
 | 0=>0
 | n+1=>if (T.other n:Int)≠but/\0<T.cell m (n+1)/\(T.enter m but n=0\/T.other n<T.other (T.enter m but n - 1)) then n+1 else T.enter m but n
def ym.ahead (T:ym) (room c i j:Nat):Prop:=
 T.cell i 0* -(T.cell j c)<T.cell j 0* -(T.cell i c)\/(T.cell i 0* -(T.cell j c)=T.cell j 0* -(T.cell i c)/\(T.basic i=room\/(T.basic j≠room/\T.basic i<T.basic j)))
instance (T:ym) (room c i j:Nat):Decidable (T.ahead room c i j):=by unfold ym.ahead;exact inferInstance
def ym.leave (T:ym) (room c:Nat):Nat->Option Nat
 | 0=>none
 | n+1=>if T.cell n c ≥ 0 then T.leave room c n else match T.leave room c n with
   | none=>some n
   | some j=>if T.ahead room c n j then some n else some j
def Fit (z:Int):Prop:=len 4294967296 z.natAbs<=8388608
structure ym.Fits (T:ym) (m L:Nat):Prop where
 den:0<T.den
 fden:Fit T.den
 cell:∀ i k,i<=m->k<L->Fit (T.cell i k)
theorem ym.enter_le (T:ym) (m:Nat) (but:Int) (n:Nat):T.enter m but n<=n:=by
 induction n with
 | zero=>exact Nat.le_refl 0
 | succ n ih=>
   unfold ym.enter
   split
   . exact Nat.le_refl _
   . omega
theorem ym.leave_lt (T:ym) (room c:Nat):∀ (n j:Nat),T.leave room c n=some j->j<n/\T.cell j c<0
 | 0,j,h=>by cases h
 | n+1,j,h=>by
   unfold ym.leave at h
   split at h
   . have:=ym.leave_lt T room c n j h;exact ⟨by omega,this.2⟩
   . rename_i hc
     split at h
     . injection h with h;subst h;exact ⟨by omega,by omega⟩
     . rename_i j' hj
       split at h
       . injection h with h;subst h;exact ⟨by omega,by omega⟩
       . injection h with h;subst h
         have:=ym.leave_lt T room c n j' hj;exact ⟨by omega,this.2⟩
def ym.stA (T:ym) (r c i k:Nat):Nat->Nat->Int:=fun i' k' =>if i' ≠r/\(i' <i\/(i' =i/\k' <k)) then T.bare r c i' k' else T.cell i' k'
def ym.stB (T:ym) (r c k:Nat):Nat->Nat->Int:=fun i' k' =>if i' =r then (if k' <k/\k' ≠c then -(T.cell r k') else T.cell r k') else T.bare r c i' k'
def stD (A:Nat->Nat->Int) (i k:Nat):Nat->Nat->Int:=fun i' k' =>if i' <i\/(i' =i/\k' <k) then -(A i' k') else A i' k'
section
variable (T:ym) (r c i k m L:Nat)
theorem ym.bare_col (h:i≠r):T.bare r c i c=T.cell i c:=by unfold ym.bare;rw [if_neg h,if_pos rfl]
theorem ym.stA_start (i' k' :Nat):T.stA r c 0 0 i' k' =T.cell i' k' :=by unfold ym.stA;rw [if_neg (by omega)]
theorem ym.stA_skip (i' k' :Nat):T.stA r c (r+1) 0 i' k' =T.stA r c r 0 i' k' :=by
 unfold ym.stA
 by_cases h:i' ≠r/\(i' <r\/(i' =r/\k' <0))
 . rw [if_pos h,if_pos (by omega)]
 . rw [if_neg h,if_neg (by omega)]
theorem ym.stA_here:T.stA r c i k i k=T.cell i k:=by unfold ym.stA;rw [if_neg (by omega)]
theorem ym.stA_row (k' :Nat):T.stA r c i k r k' =T.cell r k' :=by unfold ym.stA;rw [if_neg (by omega)]
theorem ym.stA_col0:T.stA r c i 0 i c=T.cell i c:=by unfold ym.stA;rw [if_neg (by omega)]
theorem ym.stA_next (hi:i≠r) (hk:k≠c) (i' k' :Nat):T.stA r c i (k+1) i' k' =if i' =i/\k' =k then (T.cell i k*T.cell r c - T.cell i c*T.cell r k).tdiv T.den else T.stA r c i k i' k' :=by
 unfold ym.stA
 by_cases h:i' =i/\k' =k
 . obtain ⟨rfl,rfl⟩:=h
   rw [if_pos (by omega),if_pos ⟨rfl,rfl⟩];unfold ym.bare;rw [if_neg hi,if_neg hk]
 . rw [if_neg h]
   by_cases h2:i' ≠r/\(i' <i\/(i' =i/\k' <k))
   . rw [if_pos h2,if_pos (by omega)]
   . rw [if_neg h2,if_neg (by omega)]
theorem ym.stA_col (hi:i≠r) (i' k' :Nat):T.stA r c i (c+1) i' k' =T.stA r c i c i' k' :=by
 unfold ym.stA
 by_cases h:i' =i/\k' =c
 . obtain ⟨rfl,rfl⟩:=h
   rw [if_pos (by omega),if_neg (by omega),ym.bare_col T r k' i' hi]
 . by_cases h2:i' ≠r/\(i' <i\/(i' =i/\k' <c))
   . rw [if_pos h2,if_pos (by omega)]
   . rw [if_neg h2,if_neg (by omega)]
theorem ym.stA_end (hi:i≠r) (i' k' :Nat) (hk:k' <L):T.stA r c (i+1) 0 i' k' =if i' =i/\k' =c then T.cell i c else T.stA r c i L i' k' :=by
 unfold ym.stA
 by_cases h:i' =i/\k' =c
 . obtain ⟨rfl,rfl⟩:=h
   rw [if_pos (by omega),if_pos ⟨rfl,rfl⟩,ym.bare_col T r k' i' hi]
 . rw [if_neg h]
   by_cases h2:i' ≠r/\(i' <i\/(i' =i/\k' <L))
   . rw [if_pos h2,if_pos (by omega)]
   . rw [if_neg h2,if_neg (by omega)]
theorem ym.stB_start (i' k' :Nat) (h:i' <=m):T.stB r c 0 i' k' =T.stA r c (m+1) 0 i' k' :=by
 unfold ym.stB ym.stA
 by_cases h1:i' =r
 . subst h1;rw [if_pos rfl,if_neg (by omega),if_neg (by omega)]
 . rw [if_neg h1,if_pos (by omega)]
theorem ym.stB_here:T.stB r c k r k=T.cell r k:=by unfold ym.stB;rw [if_pos rfl,if_neg (by omega)]
theorem ym.stB_next (hk:k≠c) (i' k' :Nat):T.stB r c (k+1) i' k' =if i' =r/\k' =k then -(T.cell r k) else T.stB r c k i' k' :=by
 unfold ym.stB
 by_cases h1:i' =r
 . subst h1
   by_cases h2:k' =k
   . subst h2;rw [if_pos rfl,if_pos (by omega),if_pos ⟨rfl,rfl⟩]
   . rw [if_pos rfl,if_neg (show ¬ (i' =i' /\k' =k) from fun h=>h2 h.2),if_pos rfl]
     by_cases h3:k' <k/\k' ≠c
     . rw [if_pos h3,if_pos (by omega)]
     . rw [if_neg h3,if_neg (by omega)]
 . rw [if_neg h1,if_neg (show ¬ (i' =r/\k' =k) from fun h=>h1 h.1),if_neg h1]
theorem ym.stB_col (i' k' :Nat):T.stB r c (c+1) i' k' =T.stB r c c i' k' :=by
 unfold ym.stB
 by_cases h1:i' =r
 . rw [if_pos h1,if_pos h1]
   by_cases h3:k' <c/\k' ≠c
   . rw [if_pos h3,if_pos (by omega)]
   . rw [if_neg h3,if_neg (by omega)]
 . rw [if_neg h1,if_neg h1]
theorem ym.stB_end (i' k' :Nat) (hk:k' <L):T.bare r c i' k' =if i' =r/\k' =c then T.den else T.stB r c L i' k' :=by
 unfold ym.stB ym.bare
 by_cases h1:i' =r
 . subst h1
   by_cases h2:k' =c
   . subst h2;rw [if_pos rfl,if_pos rfl,if_pos ⟨rfl,rfl⟩]
   . rw [if_pos rfl,if_neg h2,if_neg (show ¬ (i' =i' /\k' =c) from fun h=>h2 h.2),if_pos rfl,if_pos ⟨hk,h2⟩]
 . rw [if_neg h1,if_neg (show ¬ (i' =r/\k' =c) from fun h=>h1 h.1),if_neg h1]
end
section
variable (A:Nat->Nat->Int) (i k m L:Nat)
theorem zij (i' k' :Nat):stD A 0 0 i' k' =A i' k' :=by unfold stD;rw [if_neg (by omega)]
theorem zk6:stD A i k i k=A i k:=by unfold stD;rw [if_neg (by omega)]
theorem zka (i' k' :Nat):stD A i (k+1) i' k' =if i' =i/\k' =k then -(A i k) else stD A i k i' k' :=by
 unfold stD
 by_cases h:i' =i/\k' =k
 . obtain ⟨rfl,rfl⟩:=h
   rw [if_pos (by omega),if_pos ⟨rfl,rfl⟩]
 . rw [if_neg h]
   by_cases h2:i' <i\/(i' =i/\k' <k)
   . rw [if_pos h2,if_pos (by omega)]
   . rw [if_neg h2,if_neg (by omega)]
theorem zmt (i' k' :Nat) (hk:k' <L):stD A (i+1) 0 i' k' =stD A i L i' k' :=by
 unfold stD
 by_cases h2:i' <i\/(i' =i/\k' <L)
 . rw [if_pos h2,if_pos (by omega)]
 . rw [if_neg h2,if_neg (by omega)]
theorem zm3 (i' k' :Nat) (hi:i' <=m):stD A (m+1) 0 i' k' = -(A i' k'):=by unfold stD;rw [if_pos (by omega)]
end
end Go.Proofs.YtnmkalocbfdecaaGreatDoor
