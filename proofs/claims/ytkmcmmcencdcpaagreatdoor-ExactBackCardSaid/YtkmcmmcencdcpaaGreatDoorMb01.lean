/- Parts of the proof: memory, numbers, walks of the functions that are called. -/
import Init.Data.List.Lemmas
set_option linter.unusedVariables false
set_option linter.unusedSimpArgs false
namespace Go.Proofs.YtkmcmmcencdcpaaGreatDoor
def val (β:Nat):List Nat->Nat
 | []=>0
 | d :: ds=>d+β*val β ds
def zG (β:Nat) (ds:List Nat):Prop:=∀ d∈ds,d<β
def yU (β:Nat) (ds:List Nat):Prop:=zG β ds/\ds.getLast?≠some 0
theorem Ze (β:Nat):val β []=0:=rfl
theorem Zz (β d:Nat) (ds:List Nat):val β (d :: ds)=d+β*val β ds:=rfl
theorem Vh (β d:Nat):val β [d]=d:=by simp [val]
theorem vH (β:Nat) (a b:List Nat):val β (a ++ b)=val β a+β ^ a.length*val β b:=by
 induction a with
 | nil=>simp [val]
 | cons d a ih=>simp only [List.cons_append,Zz,ih,List.length_cons,Nat.pow_succ,Nat.mul_add,Nat.add_assoc];rw [Nat.mul_comm (β ^ a.length) β,Nat.mul_assoc]
theorem Z4 (β:Nat) (a:List Nat) (d:Nat):val β (a ++ [d])=val β a+β ^ a.length*d:=by rw [vH,Vh]
theorem zag (β n:Nat):val β (List.replicate n 0)=0:=by
 induction n with
 | zero=>rfl
 | succ n ih=>rw [List.replicate_succ,Zz,ih];simp
theorem zG.nil (β:Nat):zG β []:=fun _ h=>by cases h
theorem zG.append {β:Nat} {a b:List Nat} (ha:zG β a) (hb:zG β b):zG β (a ++ b):=fun d h=>by
 rcases List.mem_append.1 h with h | h
 . exact ha d h
 . exact hb d h
theorem zG.cons {β d:Nat} {a:List Nat} (hd:d<β) (ha:zG β a):zG β (d :: a):=fun x h=>by
 rcases List.mem_cons.1 h with h | h
 . omega
 . exact ha x h
theorem zG.tail {β d:Nat} {a:List Nat} (h:zG β (d :: a)):zG β a:=fun x hx=>h x (List.mem_cons_of_mem _ hx)
theorem zG.head {β d:Nat} {a:List Nat} (h:zG β (d :: a)):d<β:=h d List.mem_cons_self
theorem zG.take {β:Nat} {a:List Nat} (h:zG β a) (k:Nat):zG β (a.take k):=fun d hd=>h d (List.mem_of_mem_take hd)
theorem zG.drop {β:Nat} {a:List Nat} (h:zG β a) (k:Nat):zG β (a.drop k):=fun d hd=>h d (List.mem_of_mem_drop hd)
theorem zG.getD {β:Nat} {a:List Nat} (h:zG β a) (hβ:0<β) (k:Nat):a.getD k 0<β:=by
 rw [List.getD_eq_getElem?_getD]
 by_cases hk:k<a.length
 . rw [List.getElem?_eq_getElem hk];exact h _ (List.getElem_mem hk)
 . rw [List.getElem?_eq_none (by omega)];exact hβ
theorem zG.get {β:Nat} {a:List Nat} (h:zG β a) (k:Nat) (hk:k<a.length):a[k]<β:=h _ (List.getElem_mem hk)
theorem zG.replicate {β:Nat} (hβ:0<β) (n:Nat):zG β (List.replicate n 0):=fun d hd=>by rw [(List.mem_replicate.1 hd).2];exact hβ
theorem zG.set {β:Nat} {a:List Nat} (h:zG β a) (k d:Nat) (hd:d<β):zG β (a.set k d):=fun x hx=>by
 rcases List.mem_or_eq_of_mem_set hx with hx | hx
 . exact h x hx
 . omega
theorem Zm {β:Nat} {ds:List Nat} (h:zG β ds):val β ds<β ^ ds.length:=by
 induction ds with
 | nil=>simp [val]
 | cons d ds ih=>
   have h1:=ih h.tail;have h2:=h.head;rw [Zz,List.length_cons,Nat.pow_succ];have h3:β*(val β ds+1)<=β*β ^ ds.length:=Nat.mul_le_mul_left _ h1;rw [Nat.mul_add,Nat.mul_one] at h3;rw [Nat.mul_comm (β ^ ds.length) β]
   omega
theorem yM (β:Nat) (ds:List Nat) (k:Nat) (hk:k<=ds.length):val β ds=val β (ds.take k)+β ^ k*val β (ds.drop k):=by
 conv=>lhs;rw [<- List.take_append_drop k ds,vH,List.length_take,Nat.min_eq_left hk]
theorem Va {α:Type} (ds:List α) (k:Nat) (hk:k<ds.length):ds.take (k+1)=ds.take k ++ [ds[k]]:=by
 rw [List.take_succ_eq_append_getElem hk]
theorem y6 (β:Nat) (ds:List Nat) (k:Nat) (hk:k<ds.length):val β (ds.take (k+1))=val β (ds.take k)+β ^ k*ds[k]:=by
 rw [Va ds k hk,Z4,List.length_take,Nat.min_eq_left (by omega)]
theorem Zy (β:Nat) (ds:List Nat) (k:Nat) (hk:k<ds.length):val β (ds.drop k)=ds[k]+β*val β (ds.drop (k+1)):=by
 rw [List.drop_eq_getElem_cons hk,Zz]
theorem yU.nil (β:Nat):yU β []:=⟨zG.nil β,by simp⟩
theorem yU.last {β:Nat} {ds:List Nat} (h:yU β ds) (hne:ds≠[]):ds[ds.length - 1]'(by have:=List.length_pos_iff.2 hne;omega)≠0:=by
 intro h0
 apply h.2
 rw [List.getLast?_eq_getElem?,List.getElem?_eq_getElem (by have:=List.length_pos_iff.2 hne;omega),h0]
theorem yU.mk_ {β:Nat} {ds:List Nat} (h:zG β ds) (hl:∀ hne:0<ds.length,ds[ds.length - 1]≠0):yU β ds:=by
 refine ⟨h,?_⟩
 intro h0
 rw [List.getLast?_eq_getElem?] at h0
 obtain ⟨hlt,e⟩:=List.getElem?_eq_some_iff.1 h0
 exact hl (by omega) e
theorem yU.ge {β:Nat} {ds:List Nat} (h:yU β ds) (hne:ds≠[]):β ^ (ds.length - 1)<=val β ds:=by
 have hp:=List.length_pos_iff.2 hne
 have hl:=h.last hne
 have e:val β ds=val β (ds.take (ds.length - 1))+β ^ (ds.length - 1)*ds[ds.length - 1]:=by
  rw [<- y6 β ds (ds.length - 1) (by omega),show ds.length - 1+1=ds.length by omega,List.take_length]
 rw [e]
 have:β ^ (ds.length - 1)*1<=β ^ (ds.length - 1)*ds[ds.length - 1]:=Nat.mul_le_mul_left _ (by omega)
 omega
theorem yU.zero_iff {β:Nat} {ds:List Nat} (hβ:0<β) (h:yU β ds):val β ds=0↔ds=[]:=by
 constructor
 . intro h0
   by_cases hne:ds=[]
   . exact hne
   . have:=h.ge hne
     have:=Nat.pow_pos (n:=ds.length - 1) hβ
     omega
 . rintro rfl;rfl
theorem yU.lt_of_length {β:Nat} {a b:List Nat} (hβ:0<β) (ha:zG β a) (hb:yU β b) (h:a.length<b.length):val β a<val β b:=by
 have h1:=Zm ha
 have h2:=hb.ge (by intro e;subst e;simp at h)
 have h3:β ^ a.length<=β ^ (b.length - 1):=Nat.pow_le_pow_right hβ (by omega)
 omega
theorem yU.length_le {β:Nat} {a b:List Nat} (hβ:0<β) (ha:yU β a) (hb:yU β b) (h:val β a<=val β b):a.length<=b.length:=by
 rcases Nat.lt_or_ge b.length a.length with h1 | h1
 . have:=yU.lt_of_length hβ hb.1 ha h1;omega
 . exact h1
theorem yU.length_lt_pow {β:Nat} {a:List Nat} {k:Nat} (hβ:1<β) (ha:yU β a) (h:val β a<β ^ k):a.length<=k:=by
 rcases Nat.lt_or_ge k a.length with h1 | h1
 . have h2:=ha.ge (by intro e;subst e;simp at h1)
   have h3:β ^ k<=β ^ (a.length - 1):=Nat.pow_le_pow_right (by omega) (by omega)
   omega
 . exact h1
theorem zkx {β:Nat} {a b:List Nat} (hl:a.length=b.length) (ha:zG β a) (hb:zG β b) (h:val β a=val β b):a=b:=by
 induction a generalizing b with
 | nil=>exact (List.eq_nil_of_length_eq_zero hl.symm).symm
 | cons d a ih=>
   cases b with
   | nil=>simp at hl
   | cons c b=>
     rw [Zz,Zz] at h;have h1:=ha.head;have h2:=hb.head
     have e1:d=c:=by
      have q1:(d+β*val β a) % β=d:=by rw [Nat.add_mul_mod_self_left,Nat.mod_eq_of_lt h1]
      have q2:(c+β*val β b) % β=c:=by rw [Nat.add_mul_mod_self_left,Nat.mod_eq_of_lt h2]
      rw [<- q1, <- q2,h]
     subst e1
     have e2:val β a=val β b:=by
      have:β*val β a=β*val β b:=by omega
      exact Nat.eq_of_mul_eq_mul_left (by omega) this
     rw [ih (by simpa using hl) ha.tail hb.tail e2]
theorem yU.inj {β:Nat} {a b:List Nat} (hβ:0<β) (ha:yU β a) (hb:yU β b) (h:val β a=val β b):a=b:=
 zkx (Nat.le_antisymm (ha.length_le hβ hb (by omega)) (hb.length_le hβ ha (by omega))) ha.1 hb.1 h
theorem zb2 {β:Nat} {a b:List Nat} (hl:a.length=b.length) (ha:zG β a) (k:Nat) (hk:k<a.length)
 (hsame:∀ j (h1:j<a.length) (h2:j<b.length),k<j->a[j]=b[j]) (hlt:a[k]<b[k]'(by omega)):val β a<val β b:=by
 have e1:=yM β a k (by omega)
 have e2:=yM β b k (by omega)
 rw [Zy β a k hk] at e1
 rw [Zy β b k (by omega)] at e2
 have e3:a.drop (k+1)=b.drop (k+1):=by
  apply List.ext_getElem (by simp [hl])
  intro i h1 h2
  rw [List.getElem_drop,List.getElem_drop]
  exact hsame _ _ _ (by omega)
 rw [e3] at e1
 have h1:val β (a.take k)<β ^ k:=by
  have:=Zm (ha.take k)
  rwa [List.length_take,Nat.min_eq_left (by omega)] at this
 have h2:β ^ k*(a[k]+β*val β (b.drop (k+1))+1)<=β ^ k*(b[k]'(by omega)+β*val β (b.drop (k+1))):=Nat.mul_le_mul_left _ (by omega)
 rw [Nat.mul_add _ _ 1,Nat.mul_one] at h2
 omega
def digs (β:Nat) (n:Nat):List Nat:=if _h:β<=1\/n=0 then [] else (n % β) :: digs β (n / β)
termination_by n
decreasing_by exact Nat.div_lt_self (by omega) (by omega)
theorem Zr (β:Nat):digs β 0=[]:=by rw [digs];simp
theorem Z8 {β n:Nat} (hβ:1<β) (hn:0<n):digs β n=(n % β) :: digs β (n / β):=by rw [digs];rw [dif_neg (by omega)]
theorem vQ {β:Nat} (hβ:1<β) (n:Nat):yU β (digs β n)/\val β (digs β n)=n:=by
 induction n using Nat.strongRecOn with
 | _ n ih=>
   by_cases hn:n=0
   . subst hn;rw [Zr];exact ⟨yU.nil β,rfl⟩
   . rw [Z8 hβ (by omega)]
     obtain ⟨h1,h2⟩:=ih (n / β) (Nat.div_lt_self (by omega) hβ);refine ⟨⟨zG.cons (Nat.mod_lt _ (by omega)) h1.1,?_⟩,?_⟩
     . by_cases hd:digs β (n / β)=[]
       . rw [hd] at h2 |-
         have h3:n / β=0:=h2.symm
         have h4:n<β:=by
          rcases Nat.lt_or_ge n β with h | h
          . exact h
          . have:=Nat.div_pos h (by omega);omega
         rw [Nat.mod_eq_of_lt h4]
         simpa using hn
       . rw [List.getLast?_cons_of_ne_nil hd]
         exact h1.2
     . rw [Zz,h2,Nat.mod_add_div]
theorem yU.digs {β:Nat} {ds:List Nat} (hβ:1<β) (h:yU β ds):digs β (val β ds)=ds:=
 yU.inj (by omega) (vQ hβ _).1 h (vQ hβ _).2
def len (β n:Nat):Nat:=(digs β n).length
theorem yU.length_eq {β:Nat} {ds:List Nat} (hβ:1<β) (h:yU β ds):ds.length=len β (val β ds):=by rw [len,h.digs hβ]
theorem xN {β:Nat} (hβ:1<β) (n:Nat):n<β ^ len β n:=by
 have h:=vQ hβ n
 have:=Zm h.1.1
 rwa [h.2] at this
theorem yO {β n k:Nat} (hβ:1<β) (h:n<β ^ k):len β n<=k:=by
 have hs:=vQ hβ n
 exact hs.1.length_lt_pow hβ (by rw [hs.2];exact h)
theorem Zb {β m n:Nat} (hβ:1<β) (h:m<=n):len β m<=len β n:=yO hβ (Nat.lt_of_le_of_lt h (xN hβ n))
theorem zgt {β:Nat} (hβ:1<β) (m n:Nat):len β (m*n)<=len β m+len β n:=by
 apply yO hβ
 rw [Nat.pow_add]
 exact Nat.mul_lt_mul'' (xN hβ m) (xN hβ n)
theorem zke {β:Nat} (hβ:1<β) (m n:Nat):len β (m+n)<=max (len β m) (len β n)+1:=by
 apply yO hβ
 rw [Nat.pow_succ]
 have h1:=xN hβ m
 have h2:=xN hβ n
 have h3:β ^ len β m<=β ^ max (len β m) (len β n):=Nat.pow_le_pow_right (by omega) (by omega)
 have h4:β ^ len β n<=β ^ max (len β m) (len β n):=Nat.pow_le_pow_right (by omega) (by omega)
 have h5:β ^ max (len β m) (len β n)*2<=β ^ max (len β m) (len β n)*β:=Nat.mul_le_mul_left _ hβ
 omega
theorem zhu (β:Nat):len β 0=0:=by rw [len,Zr];rfl
theorem zj6 {β n:Nat} (hβ:1<β) (h:0<n):0<len β n:=by rw [len,Z8 hβ h];simp
theorem ze0 {β v1 v2 u2 top d r p ul vl u v:Nat} (ht:top=d*v1+r) (hu:u=(top*β+u2)*p+ul) (hv:v=(v1*β+v2)*p+vl) (hul:ul<p) (hlt:u<β*v)
 (h:β<=d\/r*β+u2<d*v2):u / v<d:=by
 have hvp:0<v:=by
  rcases Nat.eq_zero_or_pos v with e | e
  . rw [e] at hlt;simp at hlt
  . exact e
 rcases h with h | h
 . have:=(Nat.div_lt_iff_lt_mul hvp).2 hlt
   omega
 . rw [Nat.div_lt_iff_lt_mul hvp]
   have h1:top*β+u2+1<=d*(v1*β+v2):=by
    rw [ht,Nat.add_mul,Nat.mul_add,Nat.mul_assoc];omega
   have h2:(top*β+u2+1)*p<=d*(v1*β+v2)*p:=Nat.mul_le_mul_right _ h1;rw [Nat.add_mul _ 1 p,Nat.one_mul] at h2;have h3:d*v=d*(v1*β+v2)*p+d*vl:=by rw [hv,Nat.mul_add,Nat.mul_assoc]
   rw [h3,hu]
   omega
theorem zgs {β v1 v2 u2 top d r p ul vl u v:Nat} (ht:top=d*v1+r) (hu:u=(top*β+u2)*p+ul) (hv:v=(v1*β+v2)*p+vl) (hvl:vl<p) (hlt:u<β*v)
 (hv1:1<=v1) (h:d*v2<=r*β+u2):d<=u / v+1:=by
 have hvp:0<v:=by
  rcases Nat.eq_zero_or_pos v with e | e
  . rw [e] at hlt;simp at hlt
  . exact e
 have hq:u / v<β:=(Nat.div_lt_iff_lt_mul hvp).2 hlt
 rcases Nat.lt_or_ge (u / v+1) d with hd | hd
 . exfalso
   have h1:d*(v1*β+v2)<=top*β+u2:=by
    rw [ht,Nat.add_mul,Nat.mul_add,Nat.mul_assoc];omega
   have h2:d*(v1*β+v2)*p<=(top*β+u2)*p:=Nat.mul_le_mul_right _ h1
   have h3:u<(u / v+1)*v:=by
    have:=Nat.div_add_mod u v;have:=Nat.mod_lt u hvp;rw [Nat.add_mul,Nat.one_mul,Nat.mul_comm]
    omega
   have h4:(u / v+1)*v<=(u / v+1)*((v1*β+v2+1)*p):=by
    apply Nat.mul_le_mul_left
    rw [hv,Nat.add_mul _ 1 p,Nat.one_mul];omega
   have h5:d*(v1*β+v2)*p<(u / v+1)*(v1*β+v2+1)*p:=by
    rw [Nat.mul_assoc (u / v+1)];omega
   have h6:d*(v1*β+v2)<(u / v+1)*(v1*β+v2+1):=Nat.lt_of_mul_lt_mul_right h5;have h7:(u / v+1+1)*(v1*β+v2)<=d*(v1*β+v2):=Nat.mul_le_mul_right _ (by omega);rw [Nat.add_mul (u / v+1) 1,Nat.one_mul] at h7;rw [Nat.mul_add (u / v+1) _ 1,Nat.mul_one] at h6;have h8:1*β<=v1*β:=Nat.mul_le_mul_right _ hv1
   omega
 . exact hd
theorem zch {β v1 um un d r:Nat} (hv1:β<=2*v1) (hum:um<=v1) (hun:un<β) (hd:um*β+un=d*v1+r) (hr:r<v1):d<=β+1:=by
 rcases Nat.lt_or_ge (β+1) d with h | h
 . exfalso
   have h1:(β+2)*v1<=d*v1:=Nat.mul_le_mul_right _ (by omega);have h2:um*β<=v1*β:=Nat.mul_le_mul_right _ hum;rw [Nat.add_mul,Nat.mul_comm β v1] at h1
   omega
 . exact h
theorem zco {β v2 u2 d r:Nat} (hv2:v2<β) (hd:d<=β) (hr:β<=r):d*v2<=r*β+u2:=by
 have h1:d*v2<=β*v2:=Nat.mul_le_mul_right _ hd
 have h2:β*v2<=β*β:=Nat.mul_le_mul_left _ (by omega)
 have h3:β*β<=r*β:=Nat.mul_le_mul_right _ hr
 omega
theorem XY {u v d u' B:Nat} (hd1:u / v<=d) (hd2:d<=u / v+1) (hv:0<v) (h:u' +d*v=u+0*B):d=u / v/\u' =u % v:=by
 have h1:=Nat.div_add_mod u v
 have h2:=Nat.mod_lt u hv
 rw [Nat.zero_mul,Nat.add_zero] at h
 have e:d=u / v:=by
  rcases Nat.lt_or_ge (u / v) d with h3 | h3
  . have e:d=u / v+1:=by omega
    rw [e,Nat.add_mul,Nat.one_mul,Nat.mul_comm] at h
    omega
  . omega
 refine ⟨e,?_⟩
 rw [e,Nat.mul_comm] at h
 omega
theorem zbn {u v d u' B:Nat} (hd1:u / v<=d) (hd2:d<=u / v+1) (hv:0<v) (hB:u' <B) (h:u' +d*v=u+1*B):d=u / v+1/\u' +v=u % v+B:=by
 have h1:=Nat.div_add_mod u v
 have h2:=Nat.mod_lt u hv
 rw [Nat.one_mul] at h
 have e:d=u / v+1:=by
  rcases Nat.lt_or_ge (u / v) d with h3 | h3
  . omega
  . have e:d=u / v:=by omega
    rw [e,Nat.mul_comm] at h
    omega
 refine ⟨e,?_⟩
 rw [e,Nat.add_mul,Nat.one_mul,Nat.mul_comm] at h
 omega
theorem zil {β lo un cy bo d x y s bo' P:Nat} (hβ:0<β) (hs:s+y+bo=x+bo' *β) (hy:y=(cy+d*un) % β) {L O:Nat} (hL:L+d*lo=O+(cy+bo)*P):
 (L+P*s)+d*(lo+P*un)=(O+P*x)+((cy+d*un) / β+bo')*(P*β):=by
 have h1:=Nat.div_add_mod (cy+d*un) β
 rw [<- hy] at h1
 have h2:P*(s+y+bo)=P*(x+bo' *β):=by rw [hs]
 have h3:P*(cy+d*un)=P*(β*((cy+d*un) / β)+y):=by rw [h1]
 generalize (cy+d*un) / β=q at*
 simp only [Nat.mul_add,Nat.add_mul,Nat.mul_assoc,Nat.mul_comm,Nat.mul_left_comm] at h2 h3 hL |-
 omega
theorem zc0 {β v1 v2 u2 top p ul vl u v:Nat} (hu:u=(top*β+u2)*p+ul) (hv:v=(v1*β+v2)*p+vl) (hu2:u2<β) (hul:ul<p) (hv1:0<v1):u / v<=top / v1:=by
 rw [Nat.le_div_iff_mul_le hv1]
 have h1:u<(top+1)*(β*p):=by
  have h2:(top*β+u2+1)*p<=(top+1)*β*p:=Nat.mul_le_mul_right _ (by rw [Nat.add_mul,Nat.one_mul];omega)
  rw [Nat.add_mul _ 1,Nat.one_mul] at h2
  rw [hu, <- Nat.mul_assoc];omega
 have h3:u / v*v<=u:=Nat.div_mul_le_self u v
 have h4:u / v*(v1*(β*p))<=u / v*v:=by
  apply Nat.mul_le_mul_left
  rw [hv,Nat.add_mul,Nat.mul_assoc];omega
 have h5:u / v*v1*(β*p)<(top+1)*(β*p):=by rw [Nat.mul_assoc];omega
 have:=Nat.lt_of_mul_lt_mul_right h5
 omega
theorem zh6 {β v1 v2 um un u2 p ul vl u v:Nat} (hu:u=((um*β+un)*β+u2)*p+ul) (hv:v=(v1*β+v2)*p+vl) (hv2:v2<β) (hvl:vl<p) (hlt:u<β*v):um<=v1:=by
 rcases Nat.lt_or_ge v1 um with h | h
 . exfalso
   have h1:v<(v1+1)*(β*p):=by
    have h2:(v1*β+v2+1)*p<=(v1+1)*β*p:=Nat.mul_le_mul_right _ (by rw [Nat.add_mul,Nat.one_mul];omega);rw [Nat.add_mul _ 1,Nat.one_mul] at h2;rw [hv, <- Nat.mul_assoc];omega
   have h3:(v1+1)*(β*p)<=um*(β*p):=Nat.mul_le_mul_right _ h;have h4:β*v<=β*(um*(β*p)):=Nat.mul_le_mul_left _ (by omega)
   have h5:β*(um*(β*p))<=u:=by
    have e:β*(um*(β*p))=um*β*β*p:=by simp only [Nat.mul_assoc,Nat.mul_comm,Nat.mul_left_comm]
    have h6:um*β*β*p<=((um*β+un)*β+u2)*p:=Nat.mul_le_mul_right _ (by rw [Nat.add_mul];omega);rw [e,hu];omega
   omega
 . exact h
theorem zu {ds:List Nat} {k:Nat} (hk:k<ds.length):ds.getD k 0=ds[k]:=by
 rw [List.getD_eq_getElem?_getD,List.getElem?_eq_getElem hk];rfl
theorem ZL {ds:List Nat} {k:Nat} (hk:ds.length<=k):ds.getD k 0=0:=by
 rw [List.getD_eq_getElem?_getD,List.getElem?_eq_none hk];rfl
theorem zB (β:Nat) (ds:List Nat) (k:Nat):val β (ds.take (k+1))=val β (ds.take k)+β ^ k*ds.getD k 0:=by
 rcases Nat.lt_or_ge k ds.length with h | h
 . rw [zu h,y6 β ds k h]
 . rw [ZL h,List.take_of_length_le (by omega),List.take_of_length_le h];simp
theorem zfy (β:Nat) (ds:List Nat) (k d:Nat) (hk:k<ds.length):val β (ds.set k d)+β ^ k*ds[k]=val β ds+β ^ k*d:=by
 have e1:=yM β ds k (by omega)
 have e2:=yM β (ds.set k d) k (by simp;omega)
 rw [Zy β ds k hk] at e1
 rw [Zy β (ds.set k d) k (by simpa using hk)] at e2
 have e3:(ds.set k d).take k=ds.take k:=by rw [List.take_set_of_le (by omega)]
 have e4:(ds.set k d).drop (k+1)=ds.drop (k+1):=by rw [List.drop_set_of_lt (by omega)]
 rw [e3,e4] at e2
 simp only [List.getElem_set_self] at e2
 rw [e1,e2,Nat.mul_add,Nat.mul_add];omega
theorem zds {β i D A B c x y:Nat} (h:D+c*β ^ i=A+B):(D+β ^ i*((c+x+y) % β))+(c+x+y) / β*β ^ (i+1)=(A+β ^ i*x)+(B+β ^ i*y):=by
 have h1:=Nat.div_add_mod (c+x+y) β
 have h2:β ^ i*(c+x+y)=β ^ i*(β*((c+x+y) / β)+(c+x+y) % β):=by rw [h1]
 generalize (c+x+y) / β=q at*
 generalize (c+x+y) % β=r at*
 rw [Nat.pow_succ]
 simp only [Nat.mul_add,Nat.add_mul,Nat.mul_assoc,Nat.mul_comm,Nat.mul_left_comm] at h2 h |-
 omega
theorem zf6 {β i D A B b x y s b' :Nat} (h:D+B=A+b*β ^ i) (hs:s+y+b=x+b' *β):(D+β ^ i*s)+(B+β ^ i*y)=(A+β ^ i*x)+b' *β ^ (i+1):=by
 have h2:β ^ i*(s+y+b)=β ^ i*(x+b' *β):=by rw [hs]
 rw [Nat.pow_succ]
 simp only [Nat.mul_add,Nat.add_mul,Nat.mul_assoc,Nat.mul_comm,Nat.mul_left_comm] at h2 h |-
 omega
theorem zh0 {β P k O O' c x y o Y Z:Nat} (h:O+c*(P*β ^ k)=Z+x*P*Y) (hs:O' +P*β ^ k*o=O+P*β ^ k*((c+x*y+o) % β)):
 O' +(c+x*y+o) / β*(P*β ^ (k+1))=Z+x*P*(Y+β ^ k*y):=by
 have h1:=Nat.div_add_mod (c+x*y+o) β
 have h2:P*β ^ k*(c+x*y+o)=P*β ^ k*(β*((c+x*y+o) / β)+(c+x*y+o) % β):=by rw [h1]
 generalize (c+x*y+o) / β=q at*
 generalize (c+x*y+o) % β=r at*
 rw [Nat.pow_succ]
 simp only [Nat.mul_add,Nat.add_mul,Nat.mul_assoc,Nat.mul_comm,Nat.mul_left_comm] at h2 h hs |-
 omega
theorem zfx {β c x y o:Nat} (hc:c<β) (hx:x<β) (hy:y<β) (ho:o<β):c+x*y+o<β*β:=by
 have h1:x*y<=(β - 1)*(β - 1):=Nat.mul_le_mul (by omega) (by omega)
 obtain ⟨g,rfl⟩:∃ g,β=g+1:=⟨β - 1,by omega⟩
 simp only [Nat.add_sub_cancel] at h1
 rw [Nat.add_mul,Nat.mul_add]
 omega
theorem zd1 {β d x r:Nat} (hd:0<d) (hr:r<d) (hx:x<β):(r*β+x) / d<β/\(r*β+x) % d<d:=by
 refine ⟨(Nat.div_lt_iff_lt_mul hd).2 ?_,Nat.mod_lt _ hd⟩
 have:(r+1)*β<=d*β:=Nat.mul_le_mul_right _ (by omega)
 rw [Nat.add_mul,Nat.one_mul] at this
 rw [Nat.mul_comm β d]
 omega
theorem zki {β d x r Q A:Nat} (h:A=Q*d+r):x+β*A=((r*β+x) / d+β*Q)*d+(r*β+x) % d:=by
 have h1:=Nat.div_add_mod (r*β+x) d
 have h2:(r*β+x) / d*d+(r*β+x) % d=r*β+x:=by rw [Nat.mul_comm];exact h1
 rw [h,Nat.add_mul]
 simp only [Nat.mul_add,Nat.add_mul,Nat.mul_assoc,Nat.mul_comm,Nat.mul_left_comm] at h2 |-
 omega
theorem Xf (β:Nat) (ds:List Nat) (k d:Nat) (hk:k<ds.length):val β ((ds.set k d).drop k)=d+β*val β (ds.drop (k+1)):=by
 rw [Zy β (ds.set k d) k (by simpa using hk),List.drop_set_of_lt (by omega)]
 simp only [List.getElem_set_self]
theorem zj2 {β s i D A x:Nat} {o:Nat} (h:D+β ^ i*o=A*s):(D+β ^ i*(o+x*s % β))+β ^ (i+1)*(x*s / β)=(A+β ^ i*x)*s:=by
 have h1:=Nat.div_add_mod (x*s) β
 have h2:β ^ i*(x*s)=β ^ i*(β*(x*s / β)+x*s % β):=by rw [h1]
 generalize x*s / β=q at*
 generalize x*s % β=r at*
 rw [Nat.pow_succ,Nat.add_mul]
 simp only [Nat.mul_add,Nat.add_mul,Nat.mul_assoc,Nat.mul_comm,Nat.mul_left_comm] at h2 h |-
 omega
theorem zbs {n a b:Nat} (hb:b<2 ^ n):(2 ^ n*a) ||| b=2 ^ n*a+b:=(Nat.two_pow_add_eq_or_of_lt hb a).symm
theorem YW {n a b:Nat} (hb:b<2 ^ n):b ||| (2 ^ n*a)=b+2 ^ n*a:=by rw [Nat.or_comm,zbs hb,Nat.add_comm]
theorem zcr {s t x:Nat} (hs:0<s):x*s % (s*t)=s*(x % t):=by rw [Nat.mul_comm x s,Nat.mul_mod_mul_left]
theorem zhp {s t i A x:Nat} (hs:0<s) (ht:0<t):(A+(s*t) ^ (i+1)*x) / s=A / s+(s*t) ^ i*(t*x):=by
 have e:(s*t) ^ (i+1)*x=s*((s*t) ^ i*(t*x)):=by
  rw [Nat.pow_succ];simp only [Nat.mul_assoc,Nat.mul_comm,Nat.mul_left_comm]
 rw [e,Nat.add_mul_div_left _ _ hs]
theorem ze8 {s t x:Nat} (ht:0<t):t*x=t*(x % s)+s*t*(x / s):=by
 conv=>lhs;rw [<- Nat.mod_add_div x s]
 rw [Nat.mul_add]
 simp only [Nat.mul_assoc,Nat.mul_comm,Nat.mul_left_comm]
def chr (d:Nat):UInt8:=UInt8.ofNat (48+d)
def dig (c:UInt8):Nat:=c.toNat - 48
def yW (c:UInt8):Bool:=decide (48<=c.toNat) && decide (c.toNat<=57)
def v7 (l:List UInt8):Bool:=l.all yW && !l.isEmpty
def zF (l:List UInt8):Nat:=l.foldl (fun n c=>10*n+dig c) 0
def dec (n:Nat):List UInt8:=if n=0 then [48] else (digs 10 n).reverse.map chr
theorem zj3 {d:Nat} (h:d<10):dig (chr d)=d:=by
 unfold dig chr
 rw [UInt8.toNat_ofNat']
 have:(48+d) % 2 ^ 8=48+d:=Nat.mod_eq_of_lt (by omega)
 omega
theorem zfz {d:Nat} (h:d<10):yW (chr d)=true:=by
 unfold yW chr
 rw [UInt8.toNat_ofNat']
 have:(48+d) % 2 ^ 8=48+d:=Nat.mod_eq_of_lt (by omega)
 simp [this];omega
theorem zaa {c:UInt8} (h:yW c=true):chr (dig c)=c:=by
 simp [yW] at h
 unfold chr dig
 apply UInt8.toNat_inj.1
 rw [UInt8.toNat_ofNat']
 have:c.toNat<2 ^ 8:=UInt8.toNat_lt c
 have:(48+(c.toNat - 48)) % 2 ^ 8=48+(c.toNat - 48):=Nat.mod_eq_of_lt (by omega)
 omega
theorem zjy {c:UInt8} (h:yW c=true):dig c<10:=by
 simp [yW] at h;unfold dig;omega
theorem zbt {d:Nat} (h:d<10):(chr d).toNat=48+d:=by
 unfold chr;rw [UInt8.toNat_ofNat'];exact Nat.mod_eq_of_lt (by omega)
theorem Xp (l:List UInt8):∀ n:Nat,l.foldl (fun n c=>10*n+dig c) n=n*10 ^ l.length+zF l:=by
 induction l with
 | nil=>intro n;simp [zF]
 | cons c l ih=>
   intro n
   have e:zF (c :: l)=(10*0+dig c)*10 ^ l.length+zF l:=by
    show List.foldl (fun n c=>10*n+dig c) (10*0+dig c) l=_
    exact ih _
   rw [List.foldl_cons,ih,e,List.length_cons,Nat.pow_succ];simp only [Nat.mul_add,Nat.add_mul,Nat.mul_assoc,Nat.mul_comm,Nat.mul_left_comm,Nat.mul_zero,Nat.zero_add]
   omega
theorem Y9 (a b:List UInt8):zF (a ++ b)=zF a*10 ^ b.length+zF b:=by
 rw [zF,List.foldl_append,Xp b];rfl
theorem zcd (a:List UInt8) (c:UInt8):zF (a ++ [c])=10*zF a+dig c:=by
 rw [Y9];simp [zF];omega
theorem XO (c:UInt8) (l:List UInt8):zF (c :: l)=dig c*10 ^ l.length+zF l:=by
 rw [zF,List.foldl_cons,Xp];simp
theorem Z9 (l:List UInt8):zF l=val 10 (l.reverse.map dig):=by
 induction l with
 | nil=>rfl
 | cons c l ih=>rw [XO,List.reverse_cons,List.map_append,vH,ih];simp [val];rw [Nat.mul_comm];omega
theorem X8 {l:List UInt8} (h:l.all yW=true):zF l<10 ^ l.length:=by
 rw [Z9]
 have hs:zG 10 (l.reverse.map dig):=by
  intro d hd
  simp at hd
  obtain ⟨c,hc,rfl⟩:=hd
  exact zjy (List.all_eq_true.1 h c hc)
 simpa using Zm hs
theorem VD (n:Nat):zG 10 (digs 10 n):=(vQ (by omega) n).1.1
theorem Yj (n:Nat):(dec n).all yW=true:=by
 unfold dec
 split
 . rfl
 . rw [List.all_eq_true]
   intro c hc;simp only [List.mem_map,List.mem_reverse] at hc;obtain ⟨d,hd,rfl⟩:=hc;exact zfz (VD n d hd)
theorem zjr (n:Nat):dec n≠[]:=by
 unfold dec
 split
 . simp
 . rename_i h
   rw [Z8 (by omega) (by omega)];simp
theorem V7 (n:Nat):v7 (dec n)=true:=by
 unfold v7;rw [Yj];simp [zjr]
theorem vd (n:Nat):zF (dec n)=n:=by
 unfold dec
 split
 . rename_i h;subst h;decide
 . rw [Z9, <- List.map_reverse,List.reverse_reverse,List.map_map]
   have e:(digs 10 n).map (dig ∘ chr)=digs 10 n:=by
    have:∀ l:List Nat,zG 10 l->l.map (dig ∘ chr)=l:=by
     intro l
     induction l with
     | nil=>intro _;rfl
     | cons d l ih=>intro h;rw [List.map_cons,ih h.tail];simp [zj3 h.head]
    exact this _ (VD n)
   rw [e];exact (vQ (by omega) n).2
theorem zc9 {m n:Nat} (h:dec m=dec n):m=n:=by rw [<- vd m,h,vd]
theorem x8:dec 0=[48]:=by simp [dec]
theorem ziz (n:Nat) (hn:n≠0):∀ c,(dec n).head?=some c->c≠48:=by
 intro c hc
 unfold dec at hc
 rw [if_neg hn,List.head?_map,List.head?_reverse] at hc
 have hs:=vQ (β:=10) (by omega) n
 cases hl:(digs 10 n).getLast? with
 | none=>rw [hl] at hc;cases hc
 | some d=>
   rw [hl] at hc;simp at hc;subst hc;have h1:d<10:=hs.1.1 d (List.mem_of_getLast? hl);have h2:d≠0:=fun e=>hs.1.2 (by rw [hl,e])
   intro e;have:=congrArg UInt8.toNat e;rw [zbt h1] at this;simp at this
   omega
theorem zeg {l:List UInt8} (h:v7 l=true) (h0:l.head?≠some 48\/l.length=1):dec (zF l)=l:=by
 simp [v7] at h
 obtain ⟨ha,hne⟩:=h
 have hs:zG 10 (l.reverse.map dig):=by
  intro d hd
  simp at hd
  obtain ⟨c,hc,rfl⟩:=hd
  exact zjy (ha c hc)
 have hm:∀ l:List UInt8,(∀ c∈l,yW c=true)->l.map (chr ∘ dig)=l:=by
  intro l
  induction l with
  | nil=>intro _;rfl
  | cons c l ih=>intro h;rw [List.map_cons,ih (fun c hc=>h c (List.mem_cons_of_mem _ hc))];simp [zaa (h c List.mem_cons_self)]
 by_cases hz:zF l=0
 . unfold dec
   rw [if_pos hz]
   rcases h0 with h0 | h0
   . exfalso
     cases l with
     | nil=>exact hne rfl
     | cons c l=>
       simp at h0;rw [XO] at hz;have hc:=ha c List.mem_cons_self
       have h1:dig c=0:=by
        rcases Nat.eq_zero_or_pos (dig c) with e | e
        . exact e
        . have:=Nat.mul_pos e (Nat.pow_pos (n:=l.length) (show 0<10 by omega));omega
       have h2:=zaa hc;rw [h1] at h2;exact h0 h2.symm
   . match l,h0 with
     | [c],_=>
       have h1:dig c=0:=by simpa [zF] using hz
       have h2:=zaa (ha c List.mem_cons_self);rw [h1] at h2;rw [<- h2];rfl
 . have hc:yU 10 (l.reverse.map dig):=by
    refine ⟨hs,?_⟩;rw [List.getLast?_map,List.getLast?_reverse]
    cases l with
    | nil=>exact absurd rfl hne
    | cons c l=>
      simp only [List.head?_cons,Option.map_some];intro e;injection e with e
      have h2:=zaa (ha c List.mem_cons_self);rw [e] at h2
      rcases h0 with h0 | h0
      . apply h0;rw [<- h2];rfl
      . have:l=[]:=List.eq_nil_of_length_eq_zero (by simpa using h0)
        subst this
        apply hz
        simp [zF,e]
   unfold dec;rw [if_neg hz,Z9,hc.digs (by omega), <- List.map_reverse,List.reverse_reverse,List.map_map,hm l ha]
theorem Vy (n:Nat) (hn:n≠0):(dec n).length=len 10 n:=by unfold dec;rw [if_neg hn];simp [len]
theorem YA {n k:Nat} (h:n<10 ^ k) (hk:0<k):(dec n).length<=k:=by
 by_cases hn:n=0
 . subst hn;rw [x8];exact hk
 . rw [Vy n hn];exact yO (by omega) h
theorem vw {n k:Nat} (h:(dec n).length<=k):n<10 ^ k:=by
 have h1:=X8 (Yj n)
 rw [vd] at h1
 exact Nat.lt_of_lt_of_le h1 (Nat.pow_le_pow_right (by omega) h)
theorem YJ {β n:Nat} (hβ:10<=β):len β n<=(dec n).length:=by
 apply yO (by omega)
 exact Nat.lt_of_lt_of_le (vw (Nat.le_refl _)) (Nat.pow_le_pow_left hβ _)
theorem zhg {n m:Nat} {b:List Nat} (h:b ++ digs 10 m=digs 10 n) (hm:0<m):(b ++ [m % 10]) ++ digs 10 (m / 10)=digs 10 n:=by
 rw [<- h,Z8 (by omega) hm];simp
def yh (q:Rat):List UInt8:=(if q.num<0 then [45] else []) ++ dec q.num.natAbs ++ (if q.den=1 then [] else 47 :: dec q.den)
def yP (M:Nat) (q:Rat):Prop:=(dec q.num.natAbs).length<=M/\(dec q.den).length<=M
instance (M:Nat) (q:Rat):Decidable (yP M q):=inferInstanceAs (Decidable (_/\_))
def zd5 (l:List UInt8) (q:Rat):Prop:=l=yh q/\yP 50000 q
def yG (l:List UInt8):Bool:=l.head? == some 45
def zm (l:List UInt8):List UInt8:=if yG l then l.tail else l
def ahead (c:UInt8) (l:List UInt8):List UInt8:=l.takeWhile (· != c)
def zX (c:UInt8) (l:List UInt8):List UInt8:=(l.dropWhile (· != c)).tail
def has (c:UInt8) (l:List UInt8):Bool:=l.contains c
def vW (neg:Bool) (n d:Nat):Rat:=Rat.divInt (if neg then -(n:Int) else n) d
theorem Z3 {neg:Bool} {n d:Nat} (hc:Nat.Coprime n d) (hd:d≠0):(vW neg n d).num=(if neg then -(n:Int) else n)/\(vW neg n d).den=d:=by
 have hc' :Nat.Coprime (if neg then -(n:Int) else n).natAbs d:=by cases neg<;>simpa using hc
 have e:vW neg n d=⟨if neg then -(n:Int) else n,d,hd,hc'⟩:=by rw [Rat.mk_eq_divInt];rfl
 rw [e];exact ⟨rfl,rfl⟩
theorem ZA {l:List UInt8} (h:l.all yW=true) {c:UInt8} (hc:yW c=false):∀ x∈l,(x != c)=true:=by
 intro x hx
 have h1:=List.all_eq_true.1 h x hx
 rw [bne_iff_ne]
 rintro rfl
 rw [h1] at hc;cases hc
theorem Yp:yW 47=false:=by decide
theorem zda:yW 45=false:=by decide
theorem Y0 {l t:List UInt8} {p:UInt8->Bool} (h:∀ x∈l,p x=true):(l ++ t).takeWhile p=l ++ t.takeWhile p:=by
 induction l with
 | nil=>rfl
 | cons c l ih=>simp [List.takeWhile_cons,h c List.mem_cons_self,ih (fun x hx=>h x (List.mem_cons_of_mem _ hx))]
theorem zah {l t:List UInt8} {p:UInt8->Bool} (h:∀ x∈l,p x=true):(l ++ t).dropWhile p=t.dropWhile p:=by
 induction l with
 | nil=>rfl
 | cons c l ih=>simp [List.dropWhile_cons,h c List.mem_cons_self,ih (fun x hx=>h x (List.mem_cons_of_mem _ hx))]
theorem zfl {c:UInt8} {l:List UInt8} (h:l.all yW=true) (hc:yW c=false) (t:List UInt8):ahead c (l ++ c :: t)=l:=by
 unfold ahead
 rw [Y0 (ZA h hc)];simp [List.takeWhile_cons]
theorem zeh {c:UInt8} {l:List UInt8} (h:l.all yW=true) (hc:yW c=false) (t:List UInt8):zX c (l ++ c :: t)=t:=by
 unfold zX
 rw [zah (ZA h hc)];simp [List.dropWhile_cons]
theorem zlj (c:UInt8) (l t:List UInt8):has c (l ++ c :: t)=true:=by unfold has;simp
theorem YT {c:UInt8} {l:List UInt8} (h:has c l=false):ahead c l=l:=by
 unfold has at h;unfold ahead
 have h' :c ∉ l:=by simpa using h
 have:=Y0 (l:=l) (t:=[]) (p:=(· != c)) (by
  intro a ha
  rw [bne_iff_ne]
  rintro rfl
  exact h' ha)
 simpa using this
theorem zew {c:UInt8} {l:List UInt8} (h:l.all yW=true) (hc:yW c=false):has c l=false:=by
 unfold has
 rw [Bool.eq_false_iff]
 intro h1
 have h2:=List.contains_iff_mem.1 h1
 have:=List.all_eq_true.1 h c h2
 rw [this] at hc;cases hc
theorem zfs {c:UInt8} {l:List UInt8} (h:has c l=true):l=ahead c l ++ c :: zX c l:=by
 unfold has at h;unfold ahead zX
 have h1:c∈l:=List.contains_iff_mem.1 h
 have e:(l.dropWhile (· != c)).head?=some c:=by
  cases hd:l.dropWhile (· != c) with
  | nil=>
    have h2:=List.takeWhile_append_dropWhile (p:=(· != c)) (l:=l);rw [hd,List.append_nil] at h2;rw [<- h2] at h1;have:=List.all_eq_true.1 (List.all_takeWhile (p:=(· != c)) (l:=l)) c h1;simp at this
  | cons a t=>
    have:=List.head?_dropWhile_not (· != c) l;rw [hd] at this;simp at this;rw [this];rfl
 cases hd:l.dropWhile (· != c) with
 | nil=>rw [hd] at e;cases e
 | cons a t=>
   rw [hd] at e;injection e with e
   subst e;have:=List.takeWhile_append_dropWhile (p:=(· != a)) (l:=l);rw [hd] at this;exact this.symm
theorem ZR {l:List UInt8} (h:yG l=false):zm l=l:=by unfold zm;rw [h];rfl
theorem Xk {l:List UInt8} (h:yG l=true):l=45 :: zm l:=by
 unfold zm;rw [h]
 unfold yG at h
 cases l with
 | nil=>simp at h
 | cons c l=>simp at h;subst h;rfl
theorem zkh (l:List UInt8):l=(if yG l then [45] else []) ++ zm l:=by
 by_cases h:yG l=true
 . rw [if_pos h];exact Xk h
 . rw [if_neg h,ZR (by simpa using h)];rfl
theorem zac {l t:List UInt8} (h:v7 l=true):yG (l ++ t)=false:=by
 simp [v7] at h
 unfold yG
 cases l with
 | nil=>simp at h
 | cons c l=>
   have hc:=h.1 c List.mem_cons_self
   simp
   rintro rfl
   simp [zda] at hc
theorem zhs {l:List UInt8} {q:Rat} (h:l=yh q):yG l=decide (q.num<0)/\ahead 47 (zm l)=dec q.num.natAbs/\has 47 (zm l)=decide (q.den≠1)/\
 (q.den≠1->zX 47 (zm l)=dec q.den):=by
 have hn:yG (dec q.num.natAbs ++ (if q.den=1 then [] else 47 :: dec q.den))=false:=zac (V7 _)
 have hs:yG l=decide (q.num<0):=by
  rw [h,yh,List.append_assoc]
  by_cases h0:q.num<0
  . rw [if_pos h0];simp [yG,h0]
  . rw [if_neg h0,List.nil_append,hn];simp [h0]
 have hu:zm l=dec q.num.natAbs ++ (if q.den=1 then [] else 47 :: dec q.den):=by
  by_cases h0:q.num<0
  . have:=Xk (l:=l) (by rw [hs];simpa using h0)
    rw [h,yh,if_pos h0] at this;simp only [List.cons_append,List.nil_append,List.cons.injEq,true_and] at this;rw [h,yh,if_pos h0];simp only [List.cons_append,List.nil_append];rw [<- this]
  . rw [ZR (by rw [hs];simpa using h0),h,yh,if_neg h0,List.nil_append]
 refine ⟨hs,?_⟩
 rw [hu]
 by_cases hd:q.den=1
 . rw [if_pos hd,List.append_nil]
   have hh:=zew (Yj q.num.natAbs) Yp;refine ⟨YT hh,?_,fun h=>absurd hd h⟩;rw [hh];simp [hd]
 . rw [if_neg hd]
   exact ⟨zfl (Yj _) Yp _,by rw [zlj];simp [hd],fun _=>zeh (Yj _) Yp _⟩
def zK (l:List UInt8):Bool:=v7 l && (l.head? != some 48 || l.length == 1) && decide (l.length<=50000)
theorem zaj {n:Nat} (h:(dec n).length<=50000):zK (dec n)=true:=by
 unfold zK
 rw [V7]
 by_cases hn:n=0
 . subst hn;rw [x8];decide
 . have h1:((dec n).head? != some 48)=true:=by
    rw [bne_iff_ne];intro h2;exact ziz n hn 48 h2 rfl
   rw [h1];simp [h]
theorem vG {l:List UInt8} (h:zK l=true):dec (zF l)=l/\l.length<=50000/\v7 l=true:=by
 unfold zK at h
 simp only [Bool.and_eq_true,Bool.or_eq_true,bne_iff_ne,ne_eq,beq_iff_eq,decide_eq_true_eq] at h
 exact ⟨zeg h.1.1 h.1.2,h.2,h.1.1⟩
theorem YC {l:List UInt8} (hn:zK (ahead 47 (zm l))=true) (h0:yG l=true->ahead 47 (zm l)≠[48])
 (hd:has 47 (zm l)=true->zK (zX 47 (zm l))=true/\zX 47 (zm l)≠[48]/\zX 47 (zm l)≠[49]/\
   Nat.Coprime (zF (ahead 47 (zm l))) (zF (zX 47 (zm l)))):
 zd5 l (vW (yG l) (zF (ahead 47 (zm l))) (if has 47 (zm l) then zF (zX 47 (zm l)) else 1)):=by
 obtain ⟨e1,l1,_⟩:=vG hn
 have hl:=zkh l
 generalize hs:yG l=s at*
 generalize hu:zm l=u at*
 have hneg:s=true->zF (ahead 47 u)≠0:=by
  intro hs' h
  rw [h,x8] at e1
  exact h0 hs' e1.symm
 by_cases hh:has 47 u=true
 . obtain ⟨hd1,hd2,hd3,hc⟩:=hd hh
   obtain ⟨e2,l2,_⟩:=vG hd1
   have hz:zF (zX 47 u)≠0:=by
    intro h;rw [h,x8] at e2;exact hd2 e2.symm
   have h1:zF (zX 47 u)≠1:=by
    intro h;rw [h] at e2;exact hd3 (by rw [<- e2];simp [dec,Z8 (β:=10) (n:=1) (by omega) (by omega),Zr];decide)
   rw [if_pos hh];obtain ⟨p1,p2⟩:=Z3 (neg:=s) hc hz;have p3:(vW s (zF (ahead 47 u)) (zF (zX 47 u))).num.natAbs=zF (ahead 47 u):=by rw [p1];cases s<;>simp
   refine ⟨?_,by unfold yP;rw [p2,p3,e1,e2];exact ⟨l1,l2⟩⟩;unfold yh;rw [p2,p3,e1,e2,if_neg h1,p1,hl];rw [List.append_assoc]
   congr 1
   . cases s with
     | false=>rw [if_neg (by simp),if_neg (by simp)]
     | true=>rw [if_pos rfl,if_pos rfl,if_pos (by have:=hneg rfl;omega)]
   . exact zfs hh
 . rw [if_neg hh]
   have hh' :has 47 u=false:=by simpa using hh
   have eu:=YT hh';obtain ⟨p1,p2⟩:=Z3 (neg:=s) (n:=zF (ahead 47 u)) (d:=1) (by simp) (by omega);have p3:(vW s (zF (ahead 47 u)) 1).num.natAbs=zF (ahead 47 u):=by rw [p1];cases s<;>simp
   refine ⟨?_,by
    unfold yP;rw [p2,p3,e1]
    exact ⟨l1,by simp [dec,Z8 (β:=10) (n:=1) (by omega) (by omega),Zr]⟩⟩
   unfold yh;rw [p2,p3,e1,p1,hl,if_pos rfl,List.append_nil,eu]
   congr 1
   cases s with
   | false=>rw [if_neg (by simp),if_neg (by simp)]
   | true=>rw [if_pos rfl,if_pos rfl,if_pos (by have:=hneg rfl;rw [eu] at this;omega)]
theorem zli:dec 1=[49]:=by simp [dec,Z8 (β:=10) (n:=1) (by omega) (by omega),Zr];decide
theorem xQ {l:List UInt8} {q:Rat} (h:zd5 l q):
 zK (ahead 47 (zm l))=true/\(yG l=true->ahead 47 (zm l)≠[48])/\
 (has 47 (zm l)=true->zK (zX 47 (zm l))=true/\zX 47 (zm l)≠[48]/\zX 47 (zm l)≠[49]/\
   ahead 47 (zm l)≠[48]/\Nat.Coprime (zF (ahead 47 (zm l))) (zF (zX 47 (zm l))))/\
 q=vW (yG l) (zF (ahead 47 (zm l))) (if has 47 (zm l) then zF (zX 47 (zm l)) else 1):=by
 obtain ⟨h1,h2,h3,h4⟩:=zhs h.1
 have hsh:=h.2
 have hz:dec q.num.natAbs=[48]->q.num=0:=by
  intro e
  have:q.num.natAbs=0:=zc9 (e.trans x8.symm)
  omega
 have hnum:q.num=if decide (q.num<0)=true then -(q.num.natAbs:Int) else q.num.natAbs:=by
  by_cases h0:q.num<0
  . simp [h0];omega
  . simp [h0];omega
 refine ⟨by rw [h2];exact zaj hsh.1,?_,?_,?_⟩
 . rw [h1,h2]
   intro h0 e;have:=hz e;simp at h0
   omega
 . rw [h3]
   intro hd;have hd' :q.den≠1:=by simpa using hd
   rw [h2,h4 hd',vd,vd];refine ⟨zaj hsh.2,?_,?_,?_,q.reduced⟩
   . intro e;exact q.den_nz (zc9 (e.trans x8.symm))
   . intro e;exact hd' (zc9 (e.trans zli.symm))
   . intro e
     have h0:=hz e;have:=q.reduced;rw [h0] at this;simp at this;exact hd' this
 . rw [h1,h2,h3,vd]
   by_cases hd:q.den=1
   . have:decide (q.den≠1)=false:=by simp [hd]
     rw [this,if_neg (by simp),vW, <- hnum]
     conv=>lhs;rw [<- Rat.num_divInt_den q,hd]
   . have:decide (q.den≠1)=true:=by simp [hd]
     rw [this,if_pos rfl,h4 hd,vd,vW, <- hnum,Rat.num_divInt_den]
def zl (l:List UInt8):Option Rat:=
 let q:=vW (yG l) (zF (ahead 47 (zm l))) (if has 47 (zm l) then zF (zX 47 (zm l)) else 1)
 if l=yh q/\yP 50000 q then some q else none
theorem y8 {l:List UInt8} {q:Rat}:zl l=some q↔zd5 l q:=by
 unfold zl
 constructor
 . intro h
   simp only at h;generalize vW (yG l) (zF (ahead 47 (zm l))) (if has 47 (zm l) then zF (zX 47 (zm l)) else 1)=r at h
   split at h
   . rename_i h1;injection h with h;subst h;exact h1
   . cases h
 . intro h
   have e:=(xQ h).2.2.2
   simp only
   rw [<- e];exact if_pos h
theorem vD {l:List UInt8}:zl l=none↔∀ q,¬ zd5 l q:=by
 constructor
 . intro h q hq;rw [y8.2 hq] at h;cases h
 . intro h
   cases hr:zl l with
   | none=>rfl
   | some q=>exact absurd (y8.1 hr) (h q)
theorem VX {q:Rat} (h:yP 50000 q):zl (yh q)=some q:=y8.2 ⟨rfl,h⟩
theorem zi2 {l:List UInt8} (h:zK (ahead 47 (zm l))=false):zl l=none:=by
 rw [vD]
 intro q hq
 have:=(xQ hq).1
 rw [h] at this;cases this
theorem zh4 {l:List UInt8} (h:yG l=true) (h0:ahead 47 (zm l)=[48]):zl l=none:=by
 rw [vD]
 intro q hq
 exact (xQ hq).2.1 h h0
theorem vi {l:List UInt8} (h:has 47 (zm l)=true) (h0:zK (zX 47 (zm l))=false\/zX 47 (zm l)=[48]\/zX 47 (zm l)=[49]\/ahead 47 (zm l)=[48]):zl l=none:=by
 rw [vD]
 intro q hq
 obtain ⟨h1,h2,h3,h4,_⟩:=(xQ hq).2.2.1 h
 rcases h0 with h0 | h0 | h0 | h0
 . rw [h0] at h1;cases h1
 . exact h2 h0
 . exact h3 h0
 . exact h4 h0
theorem Zi (s:Bool) (n:Nat):(vW s n 1).num=(if s then -(n:Int) else n)/\(vW s n 1).den=1:=Z3 (by simp) (by omega)
theorem YQ {l:List UInt8} (h:zK (ahead 47 (zm l))=true) (h0:yG l=true->ahead 47 (zm l)≠[48]) (hh:has 47 (zm l)=false):zl l=some (vW (yG l) (zF (ahead 47 (zm l))) 1):=by
 rw [y8]
 have:=YC h h0 (by rw [hh];intro h;cases h)
 rw [hh] at this
 simpa using this
theorem Vp {s:Bool} {n d:Nat} (hd:d≠0) (h:(vW s n d).den=d):Nat.Coprime n d:=by
 unfold vW at h
 rw [Rat.den_divInt,if_neg (by omega)] at h
 have hg:(d:Int).gcd (if s then -(n:Int) else n)=Nat.gcd n d:=by
  cases s<;>simp [Int.gcd,Nat.gcd_comm]
 rw [hg] at h
 have h1:0<Nat.gcd n d:=Nat.gcd_pos_of_pos_right _ (by omega)
 have h2:Nat.gcd n d ∣ d:=Nat.gcd_dvd_right n d
 obtain ⟨k,hk⟩:=h2
 have h3:d / Nat.gcd n d=k:=by
  conv=>lhs;lhs;rw [hk]
  exact Nat.mul_div_cancel_left _ h1
 have h4:(d:Int).natAbs=d:=Int.natAbs_natCast d
 rw [h4,h3] at h
 have h5:Nat.gcd n d*d=1*d:=by rw [Nat.one_mul];conv=>lhs;rhs;rw [<- h]
                               exact hk.symm
 exact Nat.eq_of_mul_eq_mul_right (by omega) h5
theorem za4 {l:List UInt8} (h:zK (ahead 47 (zm l))=true) (h0:yG l=true->ahead 47 (zm l)≠[48]) (hh:has 47 (zm l)=true)
 (h1:zK (zX 47 (zm l))=true) (h2:zX 47 (zm l)≠[48]) (h3:zX 47 (zm l)≠[49]):
 zl l=if (vW (yG l) (zF (ahead 47 (zm l))) (zF (zX 47 (zm l)))).den=zF (zX 47 (zm l)) then some (vW (yG l) (zF (ahead 47 (zm l))) (zF (zX 47 (zm l)))) else none:=by
 have hz:zF (zX 47 (zm l))≠0:=by
  intro e
  have:=(vG h1).1
  rw [e,x8] at this
  exact h2 this.symm
 split
 . rename_i hd
   rw [y8];have:=YC h h0 (fun _=>⟨h1,h2,h3,Vp hz hd⟩);rw [hh] at this
   simpa using this
 . rename_i hd
   rw [vD];intro q hq
   apply hd
   exact (Z3 ((xQ hq).2.2.1 hh).2.2.2.2 hz).2
theorem Yr {l:List UInt8} (h1:zK l=true) (h2:l≠[48]):zF l≠0:=by
 intro e
 have:=(vG h1).1
 rw [e,x8] at this
 exact h2 this.symm
theorem Yy {l:List UInt8} (h:zK l=true):len 4294967296 (zF l)<=50000:=by
 obtain ⟨h1,h2,h3⟩:=vG h
 have h4:=YJ (β:=4294967296) (n:=zF l) (by omega)
 rw [h1] at h4
 omega
theorem vV {l:List UInt8} (h:zK l=true):l.all yW=true/\l.length<=50000:=by
 obtain ⟨h1,h2,h3⟩:=vG h
 unfold v7 at h3
 rw [Bool.and_eq_true] at h3
 exact ⟨h3.1,h2⟩
theorem yP.len {M:Nat} {q:Rat} (h:yP M q):Go.Proofs.YtkmcmmcencdcpaaGreatDoor.len 4294967296 q.num.natAbs<=M/\Go.Proofs.YtkmcmmcencdcpaaGreatDoor.len 4294967296 (q.den:Int).natAbs<=M:=
 ⟨Nat.le_trans (YJ (by omega)) h.1,by rw [Int.natAbs_natCast];exact Nat.le_trans (YJ (by omega)) h.2⟩
structure ye where
 den:Int
 cell:Nat->Nat->Int
 basic:Nat->Nat
 other:Nat->Nat
def ye.bare (T:ye) (r c:Nat):Nat->Nat->Int:=fun i k=>
 if i=r then (if k=c then T.den else -(T.cell r k)) else if k=c then T.cell i c else (T.cell i k*T.cell r c - T.cell i c*T.cell r k).tdiv T.den
def ye.pivot (T:ye) (r c:Nat):ye:=
 { den:=if T.cell r c<0 then -(T.cell r c) else T.cell r c,
      cell:=fun i k=>if T.cell r c<0 then -(T.bare r c i k) else T.bare r c i k,
      basic:=fun i=>if i=r then T.other (c - 1) else T.basic i,
      other:=fun k=>if k=c - 1 then T.basic r else T.other k }
def ye.enter (T:ye) (m:Nat) (but:Int):Nat->Nat
 | 0=>0
 | n+1=>if (T.other n:Int)≠but/\0<T.cell m (n+1)/\(T.enter m but n=0\/T.other n<T.other (T.enter m but n - 1)) then n+1 else T.enter m but n
def ye.ahead (T:ye) (room c i j:Nat):Prop:=
 T.cell i 0* -(T.cell j c)<T.cell j 0* -(T.cell i c)\/(T.cell i 0* -(T.cell j c)=T.cell j 0* -(T.cell i c)/\(T.basic i=room\/(T.basic j≠room/\T.basic i<T.basic j)))
instance (T:ye) (room c i j:Nat):Decidable (T.ahead room c i j):=by unfold ye.ahead;exact inferInstance
def ye.leave (T:ye) (room c:Nat):Nat->Option Nat
 | 0=>none
 | n+1=>if T.cell n c ≥ 0 then T.leave room c n else match T.leave room c n with
   | none=>some n
   | some j=>if T.ahead room c n j then some n else some j
def Fit (z:Int):Prop:=len 4294967296 z.natAbs<=8388608
structure ye.Fits (T:ye) (m L:Nat):Prop where
 den:0<T.den
 fden:Fit T.den
 cell:∀ i k,i<=m->k<L->Fit (T.cell i k)
theorem ye.enter_le (T:ye) (m:Nat) (but:Int) (n:Nat):T.enter m but n<=n:=by
 induction n with
 | zero=>exact Nat.le_refl 0
 | succ n ih=>
   unfold ye.enter
   split
   . exact Nat.le_refl _
   . omega
theorem ye.leave_lt (T:ye) (room c:Nat):∀ (n j:Nat),T.leave room c n=some j->j<n/\T.cell j c<0
 | 0,j,h=>by cases h
 | n+1,j,h=>by
   unfold ye.leave at h
   split at h
   . have:=ye.leave_lt T room c n j h;exact ⟨by omega,this.2⟩
   . rename_i hc
     split at h
     . injection h with h;subst h;exact ⟨by omega,by omega⟩
     . rename_i j' hj
       split at h
       . injection h with h;subst h;exact ⟨by omega,by omega⟩
       . injection h with h;subst h
         have:=ye.leave_lt T room c n j' hj;exact ⟨by omega,this.2⟩
theorem zfq {a:Int} (h:a≠0):(a:Rat)≠0:=by
 intro e
 exact h (by exact_mod_cast e)
def Sz (X:Nat) (q:Rat):Prop:=q.num.natAbs<=X/\q.den<=X
theorem Sz.mono {X Y:Nat} {q:Rat} (h:Sz X q) (hXY:X<=Y):Sz Y q:=⟨Nat.le_trans h.1 hXY,Nat.le_trans h.2 hXY⟩
theorem znb {X:Nat} {q:Rat} {s M:Int} (hs:s≠0) (h:q*s=M) (h1:M.natAbs<=X) (h2:s.natAbs<=X):Sz X q:=by
 have e:q=Rat.divInt M s:=by
  have h3:=zfq hs
  rw [Rat.divInt_eq_div, <- h]
  grind
 have hg:(s.gcd M:Int) ∣ s.sign*M:=Int.dvd_trans (Int.gcd_dvd_right s M) (Int.dvd_mul_left _ _)
 have hg0:0<s.gcd M:=Int.gcd_pos_of_ne_zero_left _ hs
 have hsn:(s.sign*M).natAbs<=M.natAbs:=by
  rw [Int.natAbs_mul,Int.natAbs_sign,if_neg hs];omega
 constructor
 . rw [e,Rat.num_divInt]
   obtain ⟨t,ht⟩:=hg;rw [ht,Int.mul_ediv_cancel_left _ (by omega)];rw [ht,Int.natAbs_mul] at hsn;have h3:t.natAbs<=(s.gcd M:Int).natAbs*t.natAbs:=Nat.le_mul_of_pos_left _ (by simpa using hg0)
   omega
 . rw [e,Rat.den_divInt,if_neg hs]
   exact Nat.le_trans (Nat.div_le_self _ _) h2
theorem zc2 (q:Rat):((q.den:Int):Rat)≠0:=zfq (by have:=q.den_nz;omega)
theorem zgx (q:Rat):q*((q.den:Int):Rat)=(q.num:Rat):=by
 have h:=zc2 q
 conv=>lhs;lhs;rw [<- Rat.num_divInt_den q]
 rw [Rat.divInt_eq_div]
 grind
theorem Sz.add {X Y:Nat} {p q:Rat} (hp:Sz X p) (hq:Sz Y q):Sz (2*(X*Y)) (p+q):=by
 refine znb (s:=(p.den:Int)*q.den) (M:=p.num*q.den+q.num*p.den) (Int.mul_ne_zero (by have:=p.den_nz;omega) (by have:=q.den_nz;omega)) ?_ ?_ ?_
 . have h1:=zgx p
   have h2:=zgx q
   push_cast at h1 h2 |-
   rw [<- h1, <- h2];grind
 . have h1:(p.num*q.den+q.num*p.den).natAbs<=(p.num*q.den).natAbs+(q.num*p.den).natAbs:=by omega
   rw [Int.natAbs_mul,Int.natAbs_mul] at h1;have h2:=Nat.mul_le_mul hp.1 (show (q.den:Int).natAbs<=Y by simpa using hq.2);have h3:=Nat.mul_le_mul hq.1 (show (p.den:Int).natAbs<=X by simpa using hp.2);rw [Nat.mul_comm Y X] at h3
   omega
 . rw [Int.natAbs_mul]
   have:=Nat.mul_le_mul (show (p.den:Int).natAbs<=X by simpa using hp.2) (show (q.den:Int).natAbs<=Y by simpa using hq.2)
   omega
theorem Sz.short {X e:Nat} {q:Rat} (h:Sz X q) (hX:X<10 ^ e) (he:0<e):yP e q:=⟨YA (by have:=h.1;omega) he,YA (by have:=h.2;omega) he⟩
theorem yP.sz {e:Nat} {q:Rat} (h:yP e q):Sz (10 ^ e) q:=⟨Nat.le_of_lt (vw h.1),Nat.le_of_lt (vw h.2)⟩
abbrev Dz (e:Nat) (q:Rat):Prop:=Sz (10 ^ e) q
theorem Dz.add {e f g:Nat} {p q:Rat} (hp:Dz e p) (hq:Dz f q) (hg:e+f+1<=g):Dz g (p+q):=by
 refine (Sz.add hp hq).mono ?_
 have h1:10 ^ (e+f+1)<=10 ^ g:=Nat.pow_le_pow_right (by omega) hg
 rw [Nat.pow_succ,Nat.pow_add] at h1
 omega
theorem Dz.short {e f:Nat} {q:Rat} (h:Dz e q) (hf:e<f):yP f q:=Sz.short h (Nat.pow_lt_pow_right (by omega) hf) (by omega)
def Fits (lo hi:Int) (zs:List Int):Prop:=∀ z∈zs,lo<=z/\z<hi
def ye.stA (T:ye) (r c i k:Nat):Nat->Nat->Int:=fun i' k' =>if i' ≠r/\(i' <i\/(i' =i/\k' <k)) then T.bare r c i' k' else T.cell i' k'
def ye.stB (T:ye) (r c k:Nat):Nat->Nat->Int:=fun i' k' =>if i' =r then (if k' <k/\k' ≠c then -(T.cell r k') else T.cell r k') else T.bare r c i' k'
def stD (A:Nat->Nat->Int) (i k:Nat):Nat->Nat->Int:=fun i' k' =>if i' <i\/(i' =i/\k' <k) then -(A i' k') else A i' k'
section
variable (T:ye) (r c i k m L:Nat)
theorem ye.bare_col (h:i≠r):T.bare r c i c=T.cell i c:=by unfold ye.bare;rw [if_neg h,if_pos rfl]
theorem ye.stA_start (i' k' :Nat):T.stA r c 0 0 i' k' =T.cell i' k' :=by unfold ye.stA;rw [if_neg (by omega)]
theorem ye.stA_skip (i' k' :Nat):T.stA r c (r+1) 0 i' k' =T.stA r c r 0 i' k' :=by
 unfold ye.stA
 by_cases h:i' ≠r/\(i' <r\/(i' =r/\k' <0))
 . rw [if_pos h,if_pos (by omega)]
 . rw [if_neg h,if_neg (by omega)]
theorem ye.stA_here:T.stA r c i k i k=T.cell i k:=by unfold ye.stA;rw [if_neg (by omega)]
theorem ye.stA_row (k' :Nat):T.stA r c i k r k' =T.cell r k' :=by unfold ye.stA;rw [if_neg (by omega)]
theorem ye.stA_col0:T.stA r c i 0 i c=T.cell i c:=by unfold ye.stA;rw [if_neg (by omega)]
theorem ye.stA_next (hi:i≠r) (hk:k≠c) (i' k' :Nat):T.stA r c i (k+1) i' k' =if i' =i/\k' =k then (T.cell i k*T.cell r c - T.cell i c*T.cell r k).tdiv T.den else T.stA r c i k i' k' :=by
 unfold ye.stA
 by_cases h:i' =i/\k' =k
 . obtain ⟨rfl,rfl⟩:=h
   rw [if_pos (by omega),if_pos ⟨rfl,rfl⟩];unfold ye.bare;rw [if_neg hi,if_neg hk]
 . rw [if_neg h]
   by_cases h2:i' ≠r/\(i' <i\/(i' =i/\k' <k))
   . rw [if_pos h2,if_pos (by omega)]
   . rw [if_neg h2,if_neg (by omega)]
theorem ye.stA_col (hi:i≠r) (i' k' :Nat):T.stA r c i (c+1) i' k' =T.stA r c i c i' k' :=by
 unfold ye.stA
 by_cases h:i' =i/\k' =c
 . obtain ⟨rfl,rfl⟩:=h
   rw [if_pos (by omega),if_neg (by omega),ye.bare_col T r k' i' hi]
 . by_cases h2:i' ≠r/\(i' <i\/(i' =i/\k' <c))
   . rw [if_pos h2,if_pos (by omega)]
   . rw [if_neg h2,if_neg (by omega)]
theorem ye.stA_end (hi:i≠r) (i' k' :Nat) (hk:k' <L):T.stA r c (i+1) 0 i' k' =if i' =i/\k' =c then T.cell i c else T.stA r c i L i' k' :=by
 unfold ye.stA
 by_cases h:i' =i/\k' =c
 . obtain ⟨rfl,rfl⟩:=h
   rw [if_pos (by omega),if_pos ⟨rfl,rfl⟩,ye.bare_col T r k' i' hi]
 . rw [if_neg h]
   by_cases h2:i' ≠r/\(i' <i\/(i' =i/\k' <L))
   . rw [if_pos h2,if_pos (by omega)]
   . rw [if_neg h2,if_neg (by omega)]
theorem ye.stB_start (i' k' :Nat) (h:i' <=m):T.stB r c 0 i' k' =T.stA r c (m+1) 0 i' k' :=by
 unfold ye.stB ye.stA
 by_cases h1:i' =r
 . subst h1;rw [if_pos rfl,if_neg (by omega),if_neg (by omega)]
 . rw [if_neg h1,if_pos (by omega)]
theorem ye.stB_here:T.stB r c k r k=T.cell r k:=by unfold ye.stB;rw [if_pos rfl,if_neg (by omega)]
theorem ye.stB_next (hk:k≠c) (i' k' :Nat):T.stB r c (k+1) i' k' =if i' =r/\k' =k then -(T.cell r k) else T.stB r c k i' k' :=by
 unfold ye.stB
 by_cases h1:i' =r
 . subst h1
   by_cases h2:k' =k
   . subst h2;rw [if_pos rfl,if_pos (by omega),if_pos ⟨rfl,rfl⟩]
   . rw [if_pos rfl,if_neg (show ¬ (i' =i' /\k' =k) from fun h=>h2 h.2),if_pos rfl]
     by_cases h3:k' <k/\k' ≠c
     . rw [if_pos h3,if_pos (by omega)]
     . rw [if_neg h3,if_neg (by omega)]
 . rw [if_neg h1,if_neg (show ¬ (i' =r/\k' =k) from fun h=>h1 h.1),if_neg h1]
theorem ye.stB_col (i' k' :Nat):T.stB r c (c+1) i' k' =T.stB r c c i' k' :=by
 unfold ye.stB
 by_cases h1:i' =r
 . rw [if_pos h1,if_pos h1]
   by_cases h3:k' <c/\k' ≠c
   . rw [if_pos h3,if_pos (by omega)]
   . rw [if_neg h3,if_neg (by omega)]
 . rw [if_neg h1,if_neg h1]
theorem ye.stB_end (i' k' :Nat) (hk:k' <L):T.bare r c i' k' =if i' =r/\k' =c then T.den else T.stB r c L i' k' :=by
 unfold ye.stB ye.bare
 by_cases h1:i' =r
 . subst h1
   by_cases h2:k' =c
   . subst h2;rw [if_pos rfl,if_pos rfl,if_pos ⟨rfl,rfl⟩]
   . rw [if_pos rfl,if_neg h2,if_neg (show ¬ (i' =i' /\k' =c) from fun h=>h2 h.2),if_pos rfl,if_pos ⟨hk,h2⟩]
 . rw [if_neg h1,if_neg (show ¬ (i' =r/\k' =c) from fun h=>h1 h.1),if_neg h1]
end
section
variable (A:Nat->Nat->Int) (i k m L:Nat)
theorem zg5 (i' k' :Nat):stD A 0 0 i' k' =A i' k' :=by unfold stD;rw [if_neg (by omega)]
theorem zi3:stD A i k i k=A i k:=by unfold stD;rw [if_neg (by omega)]
theorem zie (i' k' :Nat):stD A i (k+1) i' k' =if i' =i/\k' =k then -(A i k) else stD A i k i' k' :=by
 unfold stD
 by_cases h:i' =i/\k' =k
 . obtain ⟨rfl,rfl⟩:=h
   rw [if_pos (by omega),if_pos ⟨rfl,rfl⟩]
 . rw [if_neg h]
   by_cases h2:i' <i\/(i' =i/\k' <k)
   . rw [if_pos h2,if_pos (by omega)]
   . rw [if_neg h2,if_neg (by omega)]
theorem zk3 (i' k' :Nat) (hk:k' <L):stD A (i+1) 0 i' k' =stD A i L i' k' :=by
 unfold stD
 by_cases h2:i' <i\/(i' =i/\k' <L)
 . rw [if_pos h2,if_pos (by omega)]
 . rw [if_neg h2,if_neg (by omega)]
theorem zkk (i' k' :Nat) (hi:i' <=m):stD A (m+1) 0 i' k' = -(A i' k'):=by unfold stD;rw [if_pos (by omega)]
end
end Go.Proofs.YtkmcmmcencdcpaaGreatDoor
