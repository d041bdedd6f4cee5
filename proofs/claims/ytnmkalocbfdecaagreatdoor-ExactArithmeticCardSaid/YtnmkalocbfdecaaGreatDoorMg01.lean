/- Plain law: numbers as lists of digits, least digit first, to a base. · Plain law: one digit of a long division, guessed from the highest digits (no program in sight). · Plain law: the steps of sum, difference, product, short division and shift of digits. · Plain law: numbers as decimal text. · Plain law: exact numbers as text. · Plain law: what a text says as a number, way by way. · Plain law: linear equations brought to a diagonal; no program in sight. · Plain law: how great numbers become, and the rows of a net's equations; no program in sight. · Plain: dictionaries of a linear program, as the program keeps them; no program in sight. · Plain: the numbers of a dictionary on the way through an exchange. -/
import Init.Data.List.Lemmas
set_option linter.unusedVariables false
set_option linter.unusedSimpArgs false
namespace Go.Proofs.YtnmkalocbfdecaaGreatDoor
def val (β:Nat):List Nat → Nat
 | []=>0
 | d :: ds=>d+β*val β ds
def Small (β:Nat) (ds:List Nat):Prop:=∀ d∈ds,d<β
def Canon (β:Nat) (ds:List Nat):Prop:=Small β ds ∧ ds.getLast?≠some 0
theorem val_nil (β:Nat):val β []=0:=rfl
theorem val_cons (β d:Nat) (ds:List Nat):val β (d :: ds)=d+β*val β ds:=rfl
theorem val_one (β d:Nat):val β [d]=d:=by simp [val]
theorem val_append (β:Nat) (a b:List Nat):val β (a ++ b)=val β a+β ^ a.length*val β b:=by
 induction a with
 | nil=>simp [val]
 | cons d a ih=>simp only [List.cons_append,val_cons,ih,List.length_cons,Nat.pow_succ,Nat.mul_add,Nat.add_assoc];rw [Nat.mul_comm (β ^ a.length) β,Nat.mul_assoc]
theorem val_snoc (β:Nat) (a:List Nat) (d:Nat):val β (a ++ [d])=val β a+β ^ a.length*d:=by rw [val_append,val_one]
theorem val_replicate (β n:Nat):val β (List.replicate n 0)=0:=by
 induction n with
 | zero=>rfl
 | succ n ih=>rw [List.replicate_succ,val_cons,ih];simp
theorem Small.nil (β:Nat):Small β []:=fun _ h=>by cases h
theorem Small.append {β:Nat} {a b:List Nat} (ha:Small β a) (hb:Small β b):Small β (a ++ b):=fun d h=>by
 rcases List.mem_append.1 h with h | h
 · exact ha d h
 · exact hb d h
theorem Small.cons {β d:Nat} {a:List Nat} (hd:d<β) (ha:Small β a):Small β (d :: a):=fun x h=>by
 rcases List.mem_cons.1 h with h | h
 · omega
 · exact ha x h
theorem Small.tail {β d:Nat} {a:List Nat} (h:Small β (d :: a)):Small β a:=fun x hx=>h x (List.mem_cons_of_mem _ hx)
theorem Small.head {β d:Nat} {a:List Nat} (h:Small β (d :: a)):d<β:=h d List.mem_cons_self
theorem Small.take {β:Nat} {a:List Nat} (h:Small β a) (k:Nat):Small β (a.take k):=fun d hd=>h d (List.mem_of_mem_take hd)
theorem Small.drop {β:Nat} {a:List Nat} (h:Small β a) (k:Nat):Small β (a.drop k):=fun d hd=>h d (List.mem_of_mem_drop hd)
theorem Small.getD {β:Nat} {a:List Nat} (h:Small β a) (hβ:0<β) (k:Nat):a.getD k 0<β:=by
 rw [List.getD_eq_getElem?_getD]
 by_cases hk:k<a.length
 · rw [List.getElem?_eq_getElem hk];exact h _ (List.getElem_mem hk)
 · rw [List.getElem?_eq_none (by omega)];exact hβ
theorem Small.get {β:Nat} {a:List Nat} (h:Small β a) (k:Nat) (hk:k<a.length):a[k]<β:=h _ (List.getElem_mem hk)
theorem Small.replicate {β:Nat} (hβ:0<β) (n:Nat):Small β (List.replicate n 0):=fun d hd=>by rw [(List.mem_replicate.1 hd).2];exact hβ
theorem Small.set {β:Nat} {a:List Nat} (h:Small β a) (k d:Nat) (hd:d<β):Small β (a.set k d):=fun x hx=>by
 rcases List.mem_or_eq_of_mem_set hx with hx | hx
 · exact h x hx
 · omega
theorem val_lt {β:Nat} {ds:List Nat} (h:Small β ds):val β ds<β ^ ds.length:=by
 induction ds with
 | nil=>simp [val]
 | cons d ds ih=>
   have h1:=ih h.tail
   have h2:=h.head
   rw [val_cons,List.length_cons,Nat.pow_succ]
   have h3:β*(val β ds+1) ≤ β*β ^ ds.length:=Nat.mul_le_mul_left _ h1
   rw [Nat.mul_add,Nat.mul_one] at h3
   rw [Nat.mul_comm (β ^ ds.length) β]
   omega
theorem val_take_drop (β:Nat) (ds:List Nat) (k:Nat) (hk:k ≤ ds.length):val β ds=val β (ds.take k)+β ^ k*val β (ds.drop k):=by
 conv=>lhs;rw [← List.take_append_drop k ds,val_append,List.length_take,Nat.min_eq_left hk]
theorem take_snoc {α:Type} (ds:List α) (k:Nat) (hk:k<ds.length):ds.take (k+1)=ds.take k ++ [ds[k]]:=by
 rw [List.take_succ_eq_append_getElem hk]
theorem val_take_succ (β:Nat) (ds:List Nat) (k:Nat) (hk:k<ds.length):val β (ds.take (k+1))=val β (ds.take k)+β ^ k*ds[k]:=by
 rw [take_snoc ds k hk,val_snoc,List.length_take,Nat.min_eq_left (by omega)]
theorem val_drop (β:Nat) (ds:List Nat) (k:Nat) (hk:k<ds.length):val β (ds.drop k)=ds[k]+β*val β (ds.drop (k+1)):=by
 rw [List.drop_eq_getElem_cons hk,val_cons]
theorem Canon.nil (β:Nat):Canon β []:=⟨Small.nil β,by simp⟩
theorem Canon.last {β:Nat} {ds:List Nat} (h:Canon β ds) (hne:ds≠[]):ds[ds.length - 1]'(by have:=List.length_pos_iff.2 hne;omega)≠0:=by
 intro h0
 apply h.2
 rw [List.getLast?_eq_getElem?,List.getElem?_eq_getElem (by have:=List.length_pos_iff.2 hne;omega),h0]
theorem Canon.mk_ {β:Nat} {ds:List Nat} (h:Small β ds) (hl:∀ hne:0<ds.length,ds[ds.length - 1]≠0):Canon β ds:=by
 refine ⟨h,?_⟩
 intro h0
 rw [List.getLast?_eq_getElem?] at h0
 obtain ⟨hlt,e⟩:=List.getElem?_eq_some_iff.1 h0
 exact hl (by omega) e
theorem Canon.ge {β:Nat} {ds:List Nat} (h:Canon β ds) (hne:ds≠[]):β ^ (ds.length - 1) ≤ val β ds:=by
 have hp:=List.length_pos_iff.2 hne
 have hl:=h.last hne
 have e:val β ds=val β (ds.take (ds.length - 1))+β ^ (ds.length - 1)*ds[ds.length - 1]:=by
  rw [← val_take_succ β ds (ds.length - 1) (by omega),show ds.length - 1+1=ds.length by omega,List.take_length]
 rw [e]
 have:β ^ (ds.length - 1)*1 ≤ β ^ (ds.length - 1)*ds[ds.length - 1]:=Nat.mul_le_mul_left _ (by omega)
 omega
theorem Canon.zero_iff {β:Nat} {ds:List Nat} (hβ:0<β) (h:Canon β ds):val β ds=0↔ds=[]:=by
 constructor
 · intro h0
   by_cases hne:ds=[]
   · exact hne
   · have:=h.ge hne
     have:=Nat.pow_pos (n:=ds.length - 1) hβ
     omega
 · rintro rfl;rfl
theorem Canon.lt_of_length {β:Nat} {a b:List Nat} (hβ:0<β) (ha:Small β a) (hb:Canon β b) (h:a.length<b.length):val β a<val β b:=by
 have h1:=val_lt ha
 have h2:=hb.ge (by intro e;subst e;simp at h)
 have h3:β ^ a.length ≤ β ^ (b.length - 1):=Nat.pow_le_pow_right hβ (by omega)
 omega
theorem Canon.length_le {β:Nat} {a b:List Nat} (hβ:0<β) (ha:Canon β a) (hb:Canon β b) (h:val β a ≤ val β b):a.length ≤ b.length:=by
 rcases Nat.lt_or_ge b.length a.length with h1 | h1
 · have:=Canon.lt_of_length hβ hb.1 ha h1;omega
 · exact h1
theorem Canon.length_lt_pow {β:Nat} {a:List Nat} {k:Nat} (hβ:1<β) (ha:Canon β a) (h:val β a<β ^ k):a.length ≤ k:=by
 rcases Nat.lt_or_ge k a.length with h1 | h1
 · have h2:=ha.ge (by intro e;subst e;simp at h1)
   have h3:β ^ k ≤ β ^ (a.length - 1):=Nat.pow_le_pow_right (by omega) (by omega)
   omega
 · exact h1
theorem val_inj {β:Nat} {a b:List Nat} (hl:a.length=b.length) (ha:Small β a) (hb:Small β b) (h:val β a=val β b):a=b:=by
 induction a generalizing b with
 | nil=>exact (List.eq_nil_of_length_eq_zero hl.symm).symm
 | cons d a ih=>
   cases b with
   | nil=>simp at hl
   | cons c b=>
     rw [val_cons,val_cons] at h
     have h1:=ha.head
     have h2:=hb.head
     have e1:d=c:=by
      have q1:(d+β*val β a) % β=d:=by rw [Nat.add_mul_mod_self_left,Nat.mod_eq_of_lt h1]
      have q2:(c+β*val β b) % β=c:=by rw [Nat.add_mul_mod_self_left,Nat.mod_eq_of_lt h2]
      rw [← q1, ← q2,h]
     subst e1
     have e2:val β a=val β b:=by
      have:β*val β a=β*val β b:=by omega
      exact Nat.eq_of_mul_eq_mul_left (by omega) this
     rw [ih (by simpa using hl) ha.tail hb.tail e2]
theorem Canon.inj {β:Nat} {a b:List Nat} (hβ:0<β) (ha:Canon β a) (hb:Canon β b) (h:val β a=val β b):a=b:=
 val_inj (Nat.le_antisymm (ha.length_le hβ hb (by omega)) (hb.length_le hβ ha (by omega))) ha.1 hb.1 h
theorem val_lt_at {β:Nat} {a b:List Nat} (hl:a.length=b.length) (ha:Small β a) (k:Nat) (hk:k<a.length)
 (hsame:∀ j (h1:j<a.length) (h2:j<b.length),k<j → a[j]=b[j]) (hlt:a[k]<b[k]'(by omega)):val β a<val β b:=by
 have e1:=val_take_drop β a k (by omega)
 have e2:=val_take_drop β b k (by omega)
 rw [val_drop β a k hk] at e1
 rw [val_drop β b k (by omega)] at e2
 have e3:a.drop (k+1)=b.drop (k+1):=by
  apply List.ext_getElem (by simp [hl])
  intro i h1 h2
  rw [List.getElem_drop,List.getElem_drop]
  exact hsame _ _ _ (by omega)
 rw [e3] at e1
 have h1:val β (a.take k)<β ^ k:=by
  have:=val_lt (ha.take k)
  rwa [List.length_take,Nat.min_eq_left (by omega)] at this
 have h2:β ^ k*(a[k]+β*val β (b.drop (k+1))+1) ≤ β ^ k*(b[k]'(by omega)+β*val β (b.drop (k+1))):=Nat.mul_le_mul_left _ (by omega)
 rw [Nat.mul_add _ _ 1,Nat.mul_one] at h2
 omega
def digs (β:Nat) (n:Nat):List Nat:=if _h:β ≤ 1 ∨ n=0 then [] else (n % β) :: digs β (n / β)
termination_by n
decreasing_by exact Nat.div_lt_self (by omega) (by omega)
theorem digs_zero (β:Nat):digs β 0=[]:=by rw [digs];simp
theorem digs_pos {β n:Nat} (hβ:1<β) (hn:0<n):digs β n=(n % β) :: digs β (n / β):=by rw [digs];rw [dif_neg (by omega)]
theorem digs_spec {β:Nat} (hβ:1<β) (n:Nat):Canon β (digs β n) ∧ val β (digs β n)=n:=by
 induction n using Nat.strongRecOn with
 | _ n ih=>
   by_cases hn:n=0
   · subst hn;rw [digs_zero];exact ⟨Canon.nil β,rfl⟩
   · rw [digs_pos hβ (by omega)]
     obtain ⟨h1,h2⟩:=ih (n / β) (Nat.div_lt_self (by omega) hβ)
     refine ⟨⟨Small.cons (Nat.mod_lt _ (by omega)) h1.1,?_⟩,?_⟩
     · by_cases hd:digs β (n / β)=[]
       · rw [hd] at h2 ⊢
         have h3:n / β=0:=h2.symm
         have h4:n<β:=by
          rcases Nat.lt_or_ge n β with h | h
          · exact h
          · have:=Nat.div_pos h (by omega);omega
         rw [Nat.mod_eq_of_lt h4]
         simpa using hn
       · rw [List.getLast?_cons_of_ne_nil hd]
         exact h1.2
     · rw [val_cons,h2,Nat.mod_add_div]
theorem Canon.digs {β:Nat} {ds:List Nat} (hβ:1<β) (h:Canon β ds):digs β (val β ds)=ds:=
 Canon.inj (by omega) (digs_spec hβ _).1 h (digs_spec hβ _).2
def len (β n:Nat):Nat:=(digs β n).length
theorem Canon.length_eq {β:Nat} {ds:List Nat} (hβ:1<β) (h:Canon β ds):ds.length=len β (val β ds):=by rw [len,h.digs hβ]
theorem lt_pow_len {β:Nat} (hβ:1<β) (n:Nat):n<β ^ len β n:=by
 have h:=digs_spec hβ n
 have:=val_lt h.1.1
 rwa [h.2] at this
theorem len_le_of_lt {β n k:Nat} (hβ:1<β) (h:n<β ^ k):len β n ≤ k:=by
 have hs:=digs_spec hβ n
 exact hs.1.length_lt_pow hβ (by rw [hs.2];exact h)
theorem len_mono {β m n:Nat} (hβ:1<β) (h:m ≤ n):len β m ≤ len β n:=len_le_of_lt hβ (Nat.lt_of_le_of_lt h (lt_pow_len hβ n))
theorem len_mul {β:Nat} (hβ:1<β) (m n:Nat):len β (m*n) ≤ len β m+len β n:=by
 apply len_le_of_lt hβ
 rw [Nat.pow_add]
 exact Nat.mul_lt_mul'' (lt_pow_len hβ m) (lt_pow_len hβ n)
theorem len_add {β:Nat} (hβ:1<β) (m n:Nat):len β (m+n) ≤ max (len β m) (len β n)+1:=by
 apply len_le_of_lt hβ
 rw [Nat.pow_succ]
 have h1:=lt_pow_len hβ m
 have h2:=lt_pow_len hβ n
 have h3:β ^ len β m ≤ β ^ max (len β m) (len β n):=Nat.pow_le_pow_right (by omega) (by omega)
 have h4:β ^ len β n ≤ β ^ max (len β m) (len β n):=Nat.pow_le_pow_right (by omega) (by omega)
 have h5:β ^ max (len β m) (len β n)*2 ≤ β ^ max (len β m) (len β n)*β:=Nat.mul_le_mul_left _ hβ
 omega
theorem len_zero (β:Nat):len β 0=0:=by rw [len,digs_zero];rfl
theorem len_pos {β n:Nat} (hβ:1<β) (h:0<n):0<len β n:=by rw [len,digs_pos hβ h];simp
end Go.Proofs.YtnmkalocbfdecaaGreatDoor
namespace Go.Proofs.YtnmkalocbfdecaaGreatDoor
theorem guess_keep {β v1 v2 u2 top d r p ul vl u v:Nat} (ht:top=d*v1+r) (hu:u=(top*β+u2)*p+ul) (hv:v=(v1*β+v2)*p+vl) (hul:ul<p) (hlt:u<β*v)
 (h:β ≤ d ∨ r*β+u2<d*v2):u / v<d:=by
 have hvp:0<v:=by
  rcases Nat.eq_zero_or_pos v with e | e
  · rw [e] at hlt;simp at hlt
  · exact e
 rcases h with h | h
 · have:=(Nat.div_lt_iff_lt_mul hvp).2 hlt
   omega
 · rw [Nat.div_lt_iff_lt_mul hvp]
   have h1:top*β+u2+1 ≤ d*(v1*β+v2):=by
    rw [ht,Nat.add_mul,Nat.mul_add,Nat.mul_assoc];omega
   have h2:(top*β+u2+1)*p ≤ d*(v1*β+v2)*p:=Nat.mul_le_mul_right _ h1
   rw [Nat.add_mul _ 1 p,Nat.one_mul] at h2
   have h3:d*v=d*(v1*β+v2)*p+d*vl:=by rw [hv,Nat.mul_add,Nat.mul_assoc]
   rw [h3,hu]
   omega
theorem guess_end {β v1 v2 u2 top d r p ul vl u v:Nat} (ht:top=d*v1+r) (hu:u=(top*β+u2)*p+ul) (hv:v=(v1*β+v2)*p+vl) (hvl:vl<p) (hlt:u<β*v)
 (hv1:1 ≤ v1) (h:d*v2 ≤ r*β+u2):d ≤ u / v+1:=by
 have hvp:0<v:=by
  rcases Nat.eq_zero_or_pos v with e | e
  · rw [e] at hlt;simp at hlt
  · exact e
 have hq:u / v<β:=(Nat.div_lt_iff_lt_mul hvp).2 hlt
 rcases Nat.lt_or_ge (u / v+1) d with hd | hd
 · exfalso
   have h1:d*(v1*β+v2) ≤ top*β+u2:=by
    rw [ht,Nat.add_mul,Nat.mul_add,Nat.mul_assoc];omega
   have h2:d*(v1*β+v2)*p ≤ (top*β+u2)*p:=Nat.mul_le_mul_right _ h1
   have h3:u<(u / v+1)*v:=by
    have:=Nat.div_add_mod u v
    have:=Nat.mod_lt u hvp
    rw [Nat.add_mul,Nat.one_mul,Nat.mul_comm]
    omega
   have h4:(u / v+1)*v ≤ (u / v+1)*((v1*β+v2+1)*p):=by
    apply Nat.mul_le_mul_left
    rw [hv,Nat.add_mul _ 1 p,Nat.one_mul];omega
   have h5:d*(v1*β+v2)*p<(u / v+1)*(v1*β+v2+1)*p:=by
    rw [Nat.mul_assoc (u / v+1)];omega
   have h6:d*(v1*β+v2)<(u / v+1)*(v1*β+v2+1):=Nat.lt_of_mul_lt_mul_right h5
   have h7:(u / v+1+1)*(v1*β+v2) ≤ d*(v1*β+v2):=Nat.mul_le_mul_right _ (by omega)
   rw [Nat.add_mul (u / v+1) 1,Nat.one_mul] at h7
   rw [Nat.mul_add (u / v+1) _ 1,Nat.mul_one] at h6
   have h8:1*β ≤ v1*β:=Nat.mul_le_mul_right _ hv1
   omega
 · exact hd
theorem guess_first {β v1 um un d r:Nat} (hv1:β ≤ 2*v1) (hum:um ≤ v1) (hun:un<β) (hd:um*β+un=d*v1+r) (hr:r<v1):d ≤ β+1:=by
 rcases Nat.lt_or_ge (β+1) d with h | h
 · exfalso
   have h1:(β+2)*v1 ≤ d*v1:=Nat.mul_le_mul_right _ (by omega)
   have h2:um*β ≤ v1*β:=Nat.mul_le_mul_right _ hum
   rw [Nat.add_mul,Nat.mul_comm β v1] at h1
   omega
 · exact h
theorem guess_break {β v2 u2 d r:Nat} (hv2:v2<β) (hd:d ≤ β) (hr:β ≤ r):d*v2 ≤ r*β+u2:=by
 have h1:d*v2 ≤ β*v2:=Nat.mul_le_mul_right _ hd
 have h2:β*v2 ≤ β*β:=Nat.mul_le_mul_left _ (by omega)
 have h3:β*β ≤ r*β:=Nat.mul_le_mul_right _ hr
 omega
theorem guess_no_borrow {u v d u' B:Nat} (hd1:u / v ≤ d) (hd2:d ≤ u / v+1) (hv:0<v) (h:u' +d*v=u+0*B):d=u / v ∧ u' =u % v:=by
 have h1:=Nat.div_add_mod u v
 have h2:=Nat.mod_lt u hv
 rw [Nat.zero_mul,Nat.add_zero] at h
 have e:d=u / v:=by
  rcases Nat.lt_or_ge (u / v) d with h3 | h3
  · have e:d=u / v+1:=by omega
    rw [e,Nat.add_mul,Nat.one_mul,Nat.mul_comm] at h
    omega
  · omega
 refine ⟨e,?_⟩
 rw [e,Nat.mul_comm] at h
 omega
theorem guess_borrow {u v d u' B:Nat} (hd1:u / v ≤ d) (hd2:d ≤ u / v+1) (hv:0<v) (hB:u' <B) (h:u' +d*v=u+1*B):d=u / v+1 ∧ u' +v=u % v+B:=by
 have h1:=Nat.div_add_mod u v
 have h2:=Nat.mod_lt u hv
 rw [Nat.one_mul] at h
 have e:d=u / v+1:=by
  rcases Nat.lt_or_ge (u / v) d with h3 | h3
  · omega
  · have e:d=u / v:=by omega
    rw [e,Nat.mul_comm] at h
    omega
 refine ⟨e,?_⟩
 rw [e,Nat.add_mul,Nat.one_mul,Nat.mul_comm] at h
 omega
theorem sub_step {β lo un cy bo d x y s bo' P:Nat} (hβ:0<β) (hs:s+y+bo=x+bo' *β) (hy:y=(cy+d*un) % β) {L O:Nat} (hL:L+d*lo=O+(cy+bo)*P):
 (L+P*s)+d*(lo+P*un)=(O+P*x)+((cy+d*un) / β+bo')*(P*β):=by
 have h1:=Nat.div_add_mod (cy+d*un) β
 rw [← hy] at h1
 have h2:P*(s+y+bo)=P*(x+bo' *β):=by rw [hs]
 have h3:P*(cy+d*un)=P*(β*((cy+d*un) / β)+y):=by rw [h1]
 generalize (cy+d*un) / β=q at*
 simp only [Nat.mul_add,Nat.add_mul,Nat.mul_assoc,Nat.mul_comm,Nat.mul_left_comm] at h2 h3 hL ⊢
 omega
theorem guess_start {β v1 v2 u2 top p ul vl u v:Nat} (hu:u=(top*β+u2)*p+ul) (hv:v=(v1*β+v2)*p+vl) (hu2:u2<β) (hul:ul<p) (hv1:0<v1):u / v ≤ top / v1:=by
 rw [Nat.le_div_iff_mul_le hv1]
 have h1:u<(top+1)*(β*p):=by
  have h2:(top*β+u2+1)*p ≤ (top+1)*β*p:=Nat.mul_le_mul_right _ (by rw [Nat.add_mul,Nat.one_mul];omega)
  rw [Nat.add_mul _ 1,Nat.one_mul] at h2
  rw [hu, ← Nat.mul_assoc];omega
 have h3:u / v*v ≤ u:=Nat.div_mul_le_self u v
 have h4:u / v*(v1*(β*p)) ≤ u / v*v:=by
  apply Nat.mul_le_mul_left
  rw [hv,Nat.add_mul,Nat.mul_assoc];omega
 have h5:u / v*v1*(β*p)<(top+1)*(β*p):=by rw [Nat.mul_assoc];omega
 have:=Nat.lt_of_mul_lt_mul_right h5
 omega
theorem guess_um {β v1 v2 um un u2 p ul vl u v:Nat} (hu:u=((um*β+un)*β+u2)*p+ul) (hv:v=(v1*β+v2)*p+vl) (hv2:v2<β) (hvl:vl<p) (hlt:u<β*v):um ≤ v1:=by
 rcases Nat.lt_or_ge v1 um with h | h
 · exfalso
   have h1:v<(v1+1)*(β*p):=by
    have h2:(v1*β+v2+1)*p ≤ (v1+1)*β*p:=Nat.mul_le_mul_right _ (by rw [Nat.add_mul,Nat.one_mul];omega)
    rw [Nat.add_mul _ 1,Nat.one_mul] at h2
    rw [hv, ← Nat.mul_assoc];omega
   have h3:(v1+1)*(β*p) ≤ um*(β*p):=Nat.mul_le_mul_right _ h
   have h4:β*v ≤ β*(um*(β*p)):=Nat.mul_le_mul_left _ (by omega)
   have h5:β*(um*(β*p)) ≤ u:=by
    have e:β*(um*(β*p))=um*β*β*p:=by simp only [Nat.mul_assoc,Nat.mul_comm,Nat.mul_left_comm]
    have h6:um*β*β*p ≤ ((um*β+un)*β+u2)*p:=Nat.mul_le_mul_right _ (by rw [Nat.add_mul];omega)
    rw [e,hu];omega
   omega
 · exact h
end Go.Proofs.YtnmkalocbfdecaaGreatDoor
namespace Go.Proofs.YtnmkalocbfdecaaGreatDoor
theorem getD_take {ds:List Nat} {k:Nat} (hk:k<ds.length):ds.getD k 0=ds[k]:=by
 rw [List.getD_eq_getElem?_getD,List.getElem?_eq_getElem hk];rfl
theorem getD_past {ds:List Nat} {k:Nat} (hk:ds.length ≤ k):ds.getD k 0=0:=by
 rw [List.getD_eq_getElem?_getD,List.getElem?_eq_none hk];rfl
theorem val_take_getD (β:Nat) (ds:List Nat) (k:Nat):val β (ds.take (k+1))=val β (ds.take k)+β ^ k*ds.getD k 0:=by
 rcases Nat.lt_or_ge k ds.length with h | h
 · rw [getD_take h,val_take_succ β ds k h]
 · rw [getD_past h,List.take_of_length_le (by omega),List.take_of_length_le h];simp
theorem val_set (β:Nat) (ds:List Nat) (k d:Nat) (hk:k<ds.length):val β (ds.set k d)+β ^ k*ds[k]=val β ds+β ^ k*d:=by
 have e1:=val_take_drop β ds k (by omega)
 have e2:=val_take_drop β (ds.set k d) k (by simp;omega)
 rw [val_drop β ds k hk] at e1
 rw [val_drop β (ds.set k d) k (by simpa using hk)] at e2
 have e3:(ds.set k d).take k=ds.take k:=by rw [List.take_set_of_le (by omega)]
 have e4:(ds.set k d).drop (k+1)=ds.drop (k+1):=by rw [List.drop_set_of_lt (by omega)]
 rw [e3,e4] at e2
 simp only [List.getElem_set_self] at e2
 rw [e1,e2,Nat.mul_add,Nat.mul_add];omega
theorem add_step {β i D A B c x y:Nat} (h:D+c*β ^ i=A+B):(D+β ^ i*((c+x+y) % β))+(c+x+y) / β*β ^ (i+1)=(A+β ^ i*x)+(B+β ^ i*y):=by
 have h1:=Nat.div_add_mod (c+x+y) β
 have h2:β ^ i*(c+x+y)=β ^ i*(β*((c+x+y) / β)+(c+x+y) % β):=by rw [h1]
 generalize (c+x+y) / β=q at*
 generalize (c+x+y) % β=r at*
 rw [Nat.pow_succ]
 simp only [Nat.mul_add,Nat.add_mul,Nat.mul_assoc,Nat.mul_comm,Nat.mul_left_comm] at h2 h ⊢
 omega
theorem sub_digit {β i D A B b x y s b' :Nat} (h:D+B=A+b*β ^ i) (hs:s+y+b=x+b' *β):(D+β ^ i*s)+(B+β ^ i*y)=(A+β ^ i*x)+b' *β ^ (i+1):=by
 have h2:β ^ i*(s+y+b)=β ^ i*(x+b' *β):=by rw [hs]
 rw [Nat.pow_succ]
 simp only [Nat.mul_add,Nat.add_mul,Nat.mul_assoc,Nat.mul_comm,Nat.mul_left_comm] at h2 h ⊢
 omega
theorem mul_step {β P k O O' c x y o Y Z:Nat} (h:O+c*(P*β ^ k)=Z+x*P*Y) (hs:O' +P*β ^ k*o=O+P*β ^ k*((c+x*y+o) % β)):
 O' +(c+x*y+o) / β*(P*β ^ (k+1))=Z+x*P*(Y+β ^ k*y):=by
 have h1:=Nat.div_add_mod (c+x*y+o) β
 have h2:P*β ^ k*(c+x*y+o)=P*β ^ k*(β*((c+x*y+o) / β)+(c+x*y+o) % β):=by rw [h1]
 generalize (c+x*y+o) / β=q at*
 generalize (c+x*y+o) % β=r at*
 rw [Nat.pow_succ]
 simp only [Nat.mul_add,Nat.add_mul,Nat.mul_assoc,Nat.mul_comm,Nat.mul_left_comm] at h2 h hs ⊢
 omega
theorem mul_bound {β c x y o:Nat} (hc:c<β) (hx:x<β) (hy:y<β) (ho:o<β):c+x*y+o<β*β:=by
 have h1:x*y ≤ (β - 1)*(β - 1):=Nat.mul_le_mul (by omega) (by omega)
 obtain ⟨g,rfl⟩:∃ g,β=g+1:=⟨β - 1,by omega⟩
 simp only [Nat.add_sub_cancel] at h1
 rw [Nat.add_mul,Nat.mul_add]
 omega
theorem div_step {β d x r:Nat} (hd:0<d) (hr:r<d) (hx:x<β):(r*β+x) / d<β ∧ (r*β+x) % d<d:=by
 refine ⟨(Nat.div_lt_iff_lt_mul hd).2 ?_,Nat.mod_lt _ hd⟩
 have:(r+1)*β ≤ d*β:=Nat.mul_le_mul_right _ (by omega)
 rw [Nat.add_mul,Nat.one_mul] at this
 rw [Nat.mul_comm β d]
 omega
theorem div_inv {β d x r Q A:Nat} (h:A=Q*d+r):x+β*A=((r*β+x) / d+β*Q)*d+(r*β+x) % d:=by
 have h1:=Nat.div_add_mod (r*β+x) d
 have h2:(r*β+x) / d*d+(r*β+x) % d=r*β+x:=by rw [Nat.mul_comm];exact h1
 rw [h,Nat.add_mul]
 simp only [Nat.mul_add,Nat.add_mul,Nat.mul_assoc,Nat.mul_comm,Nat.mul_left_comm] at h2 ⊢
 omega
theorem val_set_drop (β:Nat) (ds:List Nat) (k d:Nat) (hk:k<ds.length):val β ((ds.set k d).drop k)=d+β*val β (ds.drop (k+1)):=by
 rw [val_drop β (ds.set k d) k (by simpa using hk),List.drop_set_of_lt (by omega)]
 simp only [List.getElem_set_self]
theorem up_step {β s i D A x:Nat} {o:Nat} (h:D+β ^ i*o=A*s):(D+β ^ i*(o+x*s % β))+β ^ (i+1)*(x*s / β)=(A+β ^ i*x)*s:=by
 have h1:=Nat.div_add_mod (x*s) β
 have h2:β ^ i*(x*s)=β ^ i*(β*(x*s / β)+x*s % β):=by rw [h1]
 generalize x*s / β=q at*
 generalize x*s % β=r at*
 rw [Nat.pow_succ,Nat.add_mul]
 simp only [Nat.mul_add,Nat.add_mul,Nat.mul_assoc,Nat.mul_comm,Nat.mul_left_comm] at h2 h ⊢
 omega
theorem or_eq_add {n a b:Nat} (hb:b<2 ^ n):(2 ^ n*a) ||| b=2 ^ n*a+b:=(Nat.two_pow_add_eq_or_of_lt hb a).symm
theorem or_eq_add' {n a b:Nat} (hb:b<2 ^ n):b ||| (2 ^ n*a)=b+2 ^ n*a:=by rw [Nat.or_comm,or_eq_add hb,Nat.add_comm]
theorem shl_mod {s t x:Nat} (hs:0<s):x*s % (s*t)=s*(x % t):=by rw [Nat.mul_comm x s,Nat.mul_mod_mul_left]
theorem down_step {s t i A x:Nat} (hs:0<s) (ht:0<t):(A+(s*t) ^ (i+1)*x) / s=A / s+(s*t) ^ i*(t*x):=by
 have e:(s*t) ^ (i+1)*x=s*((s*t) ^ i*(t*x)):=by
  rw [Nat.pow_succ];simp only [Nat.mul_assoc,Nat.mul_comm,Nat.mul_left_comm]
 rw [e,Nat.add_mul_div_left _ _ hs]
theorem down_split {s t x:Nat} (ht:0<t):t*x=t*(x % s)+s*t*(x / s):=by
 conv=>lhs;rw [← Nat.mod_add_div x s]
 rw [Nat.mul_add]
 simp only [Nat.mul_assoc,Nat.mul_comm,Nat.mul_left_comm]
end Go.Proofs.YtnmkalocbfdecaaGreatDoor
namespace Go.Proofs.YtnmkalocbfdecaaGreatDoor
def chr (d:Nat):UInt8:=UInt8.ofNat (48+d)
def dig (c:UInt8):Nat:=c.toNat - 48
def isDig (c:UInt8):Bool:=decide (48 ≤ c.toNat) && decide (c.toNat ≤ 57)
def isDigs (l:List UInt8):Bool:=l.all isDig && !l.isEmpty
def decVal (l:List UInt8):Nat:=l.foldl (fun n c=>10*n+dig c) 0
def dec (n:Nat):List UInt8:=if n=0 then [48] else (digs 10 n).reverse.map chr
theorem dig_chr {d:Nat} (h:d<10):dig (chr d)=d:=by
 unfold dig chr
 rw [UInt8.toNat_ofNat']
 have:(48+d) % 2 ^ 8=48+d:=Nat.mod_eq_of_lt (by omega)
 omega
theorem isDig_chr {d:Nat} (h:d<10):isDig (chr d)=true:=by
 unfold isDig chr
 rw [UInt8.toNat_ofNat']
 have:(48+d) % 2 ^ 8=48+d:=Nat.mod_eq_of_lt (by omega)
 simp [this];omega
theorem chr_dig {c:UInt8} (h:isDig c=true):chr (dig c)=c:=by
 simp [isDig] at h
 unfold chr dig
 apply UInt8.toNat_inj.1
 rw [UInt8.toNat_ofNat']
 have:c.toNat<2 ^ 8:=UInt8.toNat_lt c
 have:(48+(c.toNat - 48)) % 2 ^ 8=48+(c.toNat - 48):=Nat.mod_eq_of_lt (by omega)
 omega
theorem dig_lt {c:UInt8} (h:isDig c=true):dig c<10:=by
 simp [isDig] at h;unfold dig;omega
theorem chr_toNat {d:Nat} (h:d<10):(chr d).toNat=48+d:=by
 unfold chr;rw [UInt8.toNat_ofNat'];exact Nat.mod_eq_of_lt (by omega)
theorem decVal_foldl (l:List UInt8):∀ n:Nat,l.foldl (fun n c=>10*n+dig c) n=n*10 ^ l.length+decVal l:=by
 induction l with
 | nil=>intro n;simp [decVal]
 | cons c l ih=>
   intro n
   have e:decVal (c :: l)=(10*0+dig c)*10 ^ l.length+decVal l:=by
    show List.foldl (fun n c=>10*n+dig c) (10*0+dig c) l=_
    exact ih _
   rw [List.foldl_cons,ih,e,List.length_cons,Nat.pow_succ]
   simp only [Nat.mul_add,Nat.add_mul,Nat.mul_assoc,Nat.mul_comm,Nat.mul_left_comm,Nat.mul_zero,Nat.zero_add]
   omega
theorem decVal_append (a b:List UInt8):decVal (a ++ b)=decVal a*10 ^ b.length+decVal b:=by
 rw [decVal,List.foldl_append,decVal_foldl b];rfl
theorem decVal_snoc (a:List UInt8) (c:UInt8):decVal (a ++ [c])=10*decVal a+dig c:=by
 rw [decVal_append];simp [decVal];omega
theorem decVal_cons (c:UInt8) (l:List UInt8):decVal (c :: l)=dig c*10 ^ l.length+decVal l:=by
 rw [decVal,List.foldl_cons,decVal_foldl];simp
theorem decVal_eq_val (l:List UInt8):decVal l=val 10 (l.reverse.map dig):=by
 induction l with
 | nil=>rfl
 | cons c l ih=>rw [decVal_cons,List.reverse_cons,List.map_append,val_append,ih];simp [val];rw [Nat.mul_comm];omega
theorem decVal_lt {l:List UInt8} (h:l.all isDig=true):decVal l<10 ^ l.length:=by
 rw [decVal_eq_val]
 have hs:Small 10 (l.reverse.map dig):=by
  intro d hd
  simp at hd
  obtain ⟨c,hc,rfl⟩:=hd
  exact dig_lt (List.all_eq_true.1 h c hc)
 simpa using val_lt hs
theorem digs_small (n:Nat):Small 10 (digs 10 n):=(digs_spec (by omega) n).1.1
theorem dec_all (n:Nat):(dec n).all isDig=true:=by
 unfold dec
 split
 · rfl
 · rw [List.all_eq_true]
   intro c hc
   simp only [List.mem_map,List.mem_reverse] at hc
   obtain ⟨d,hd,rfl⟩:=hc
   exact isDig_chr (digs_small n d hd)
theorem dec_ne (n:Nat):dec n≠[]:=by
 unfold dec
 split
 · simp
 · rename_i h
   rw [digs_pos (by omega) (by omega)];simp
theorem dec_isDigs (n:Nat):isDigs (dec n)=true:=by
 unfold isDigs;rw [dec_all];simp [dec_ne]
theorem decVal_dec (n:Nat):decVal (dec n)=n:=by
 unfold dec
 split
 · rename_i h;subst h;decide
 · rw [decVal_eq_val, ← List.map_reverse,List.reverse_reverse,List.map_map]
   have e:(digs 10 n).map (dig ∘ chr)=digs 10 n:=by
    have:∀ l:List Nat,Small 10 l → l.map (dig ∘ chr)=l:=by
     intro l
     induction l with
     | nil=>intro _;rfl
     | cons d l ih=>intro h;rw [List.map_cons,ih h.tail];simp [dig_chr h.head]
    exact this _ (digs_small n)
   rw [e];exact (digs_spec (by omega) n).2
theorem dec_inj {m n:Nat} (h:dec m=dec n):m=n:=by rw [← decVal_dec m,h,decVal_dec]
theorem dec_zero:dec 0=[48]:=by simp [dec]
theorem dec_head (n:Nat) (hn:n≠0):∀ c,(dec n).head?=some c → c≠48:=by
 intro c hc
 unfold dec at hc
 rw [if_neg hn,List.head?_map,List.head?_reverse] at hc
 have hs:=digs_spec (β:=10) (by omega) n
 cases hl:(digs 10 n).getLast? with
 | none=>rw [hl] at hc;cases hc
 | some d=>
   rw [hl] at hc
   simp at hc
   subst hc
   have h1:d<10:=hs.1.1 d (List.mem_of_getLast? hl)
   have h2:d≠0:=fun e=>hs.1.2 (by rw [hl,e])
   intro e
   have:=congrArg UInt8.toNat e
   rw [chr_toNat h1] at this
   simp at this
   omega
theorem dec_decVal {l:List UInt8} (h:isDigs l=true) (h0:l.head?≠some 48 ∨ l.length=1):dec (decVal l)=l:=by
 simp [isDigs] at h
 obtain ⟨ha,hne⟩:=h
 have hs:Small 10 (l.reverse.map dig):=by
  intro d hd
  simp at hd
  obtain ⟨c,hc,rfl⟩:=hd
  exact dig_lt (ha c hc)
 have hm:∀ l:List UInt8,(∀ c∈l,isDig c=true) → l.map (chr ∘ dig)=l:=by
  intro l
  induction l with
  | nil=>intro _;rfl
  | cons c l ih=>intro h;rw [List.map_cons,ih (fun c hc=>h c (List.mem_cons_of_mem _ hc))];simp [chr_dig (h c List.mem_cons_self)]
 by_cases hz:decVal l=0
 · unfold dec
   rw [if_pos hz]
   rcases h0 with h0 | h0
   · exfalso
     cases l with
     | nil=>exact hne rfl
     | cons c l=>
       simp at h0
       rw [decVal_cons] at hz
       have hc:=ha c List.mem_cons_self
       have h1:dig c=0:=by
        rcases Nat.eq_zero_or_pos (dig c) with e | e
        · exact e
        · have:=Nat.mul_pos e (Nat.pow_pos (n:=l.length) (show 0<10 by omega));omega
       have h2:=chr_dig hc
       rw [h1] at h2
       exact h0 h2.symm
   · match l,h0 with
     | [c],_=>
       have h1:dig c=0:=by simpa [decVal] using hz
       have h2:=chr_dig (ha c List.mem_cons_self)
       rw [h1] at h2
       rw [← h2];rfl
 · have hc:Canon 10 (l.reverse.map dig):=by
    refine ⟨hs,?_⟩
    rw [List.getLast?_map,List.getLast?_reverse]
    cases l with
    | nil=>exact absurd rfl hne
    | cons c l=>
      simp only [List.head?_cons,Option.map_some]
      intro e
      injection e with e
      have h2:=chr_dig (ha c List.mem_cons_self)
      rw [e] at h2
      rcases h0 with h0 | h0
      · apply h0;rw [← h2];rfl
      · have:l=[]:=List.eq_nil_of_length_eq_zero (by simpa using h0)
        subst this
        apply hz
        simp [decVal,e]
   unfold dec
   rw [if_neg hz,decVal_eq_val,hc.digs (by omega), ← List.map_reverse,List.reverse_reverse,List.map_map,hm l ha]
theorem dec_length (n:Nat) (hn:n≠0):(dec n).length=len 10 n:=by unfold dec;rw [if_neg hn];simp [len]
theorem dec_length_le {n k:Nat} (h:n<10 ^ k) (hk:0<k):(dec n).length ≤ k:=by
 by_cases hn:n=0
 · subst hn;rw [dec_zero];exact hk
 · rw [dec_length n hn];exact len_le_of_lt (by omega) h
theorem lt_of_dec_length {n k:Nat} (h:(dec n).length ≤ k):n<10 ^ k:=by
 have h1:=decVal_lt (dec_all n)
 rw [decVal_dec] at h1
 exact Nat.lt_of_lt_of_le h1 (Nat.pow_le_pow_right (by omega) h)
theorem len_le_dec {β n:Nat} (hβ:10 ≤ β):len β n ≤ (dec n).length:=by
 apply len_le_of_lt (by omega)
 exact Nat.lt_of_lt_of_le (lt_of_dec_length (Nat.le_refl _)) (Nat.pow_le_pow_left hβ _)
theorem digs_step {n m:Nat} {b:List Nat} (h:b ++ digs 10 m=digs 10 n) (hm:0<m):(b ++ [m % 10]) ++ digs 10 (m / 10)=digs 10 n:=by
 rw [← h,digs_pos (by omega) hm];simp
end Go.Proofs.YtnmkalocbfdecaaGreatDoor
namespace Go.Proofs.YtnmkalocbfdecaaGreatDoor
def fracText (q:Rat):List UInt8:=(if q.num<0 then [45] else []) ++ dec q.num.natAbs ++ (if q.den=1 then [] else 47 :: dec q.den)
def Short (M:Nat) (q:Rat):Prop:=(dec q.num.natAbs).length ≤ M ∧ (dec q.den).length ≤ M
instance (M:Nat) (q:Rat):Decidable (Short M q):=inferInstanceAs (Decidable (_ ∧ _))
def IsFrac (l:List UInt8) (q:Rat):Prop:=l=fracText q ∧ Short 50000 q
def signOf (l:List UInt8):Bool:=l.head? == some 45
def unsigned (l:List UInt8):List UInt8:=if signOf l then l.tail else l
def ahead (c:UInt8) (l:List UInt8):List UInt8:=l.takeWhile (· != c)
def behind (c:UInt8) (l:List UInt8):List UInt8:=(l.dropWhile (· != c)).tail
def has (c:UInt8) (l:List UInt8):Bool:=l.contains c
def ratOf (neg:Bool) (n d:Nat):Rat:=Rat.divInt (if neg then -(n:Int) else n) d
theorem ratOf_parts {neg:Bool} {n d:Nat} (hc:Nat.Coprime n d) (hd:d≠0):(ratOf neg n d).num=(if neg then -(n:Int) else n) ∧ (ratOf neg n d).den=d:=by
 have hc' :Nat.Coprime (if neg then -(n:Int) else n).natAbs d:=by cases neg<;>simpa using hc
 have e:ratOf neg n d=⟨if neg then -(n:Int) else n,d,hd,hc'⟩:=by rw [Rat.mk_eq_divInt];rfl
 rw [e];exact ⟨rfl,rfl⟩
theorem all_ne_of_digits {l:List UInt8} (h:l.all isDig=true) {c:UInt8} (hc:isDig c=false):∀ x∈l,(x != c)=true:=by
 intro x hx
 have h1:=List.all_eq_true.1 h x hx
 rw [bne_iff_ne]
 rintro rfl
 rw [h1] at hc;cases hc
theorem isDig_slash:isDig 47=false:=by decide
theorem isDig_minus:isDig 45=false:=by decide
theorem takeWhile_all {l t:List UInt8} {p:UInt8 → Bool} (h:∀ x∈l,p x=true):(l ++ t).takeWhile p=l ++ t.takeWhile p:=by
 induction l with
 | nil=>rfl
 | cons c l ih=>simp [List.takeWhile_cons,h c List.mem_cons_self,ih (fun x hx=>h x (List.mem_cons_of_mem _ hx))]
theorem dropWhile_all {l t:List UInt8} {p:UInt8 → Bool} (h:∀ x∈l,p x=true):(l ++ t).dropWhile p=t.dropWhile p:=by
 induction l with
 | nil=>rfl
 | cons c l ih=>simp [List.dropWhile_cons,h c List.mem_cons_self,ih (fun x hx=>h x (List.mem_cons_of_mem _ hx))]
theorem ahead_cut {c:UInt8} {l:List UInt8} (h:l.all isDig=true) (hc:isDig c=false) (t:List UInt8):ahead c (l ++ c :: t)=l:=by
 unfold ahead
 rw [takeWhile_all (all_ne_of_digits h hc)];simp [List.takeWhile_cons]
theorem behind_cut {c:UInt8} {l:List UInt8} (h:l.all isDig=true) (hc:isDig c=false) (t:List UInt8):behind c (l ++ c :: t)=t:=by
 unfold behind
 rw [dropWhile_all (all_ne_of_digits h hc)];simp [List.dropWhile_cons]
theorem has_cut (c:UInt8) (l t:List UInt8):has c (l ++ c :: t)=true:=by unfold has;simp
theorem ahead_none {c:UInt8} {l:List UInt8} (h:has c l=false):ahead c l=l:=by
 unfold has at h;unfold ahead
 have h' :c ∉ l:=by simpa using h
 have:=takeWhile_all (l:=l) (t:=[]) (p:=(· != c)) (by
  intro a ha
  rw [bne_iff_ne]
  rintro rfl
  exact h' ha)
 simpa using this
theorem has_digits {c:UInt8} {l:List UInt8} (h:l.all isDig=true) (hc:isDig c=false):has c l=false:=by
 unfold has
 rw [Bool.eq_false_iff]
 intro h1
 have h2:=List.contains_iff_mem.1 h1
 have:=List.all_eq_true.1 h c h2
 rw [this] at hc;cases hc
theorem cut_eq {c:UInt8} {l:List UInt8} (h:has c l=true):l=ahead c l ++ c :: behind c l:=by
 unfold has at h;unfold ahead behind
 have h1:c∈l:=List.contains_iff_mem.1 h
 have e:(l.dropWhile (· != c)).head?=some c:=by
  cases hd:l.dropWhile (· != c) with
  | nil=>
    have h2:=List.takeWhile_append_dropWhile (p:=(· != c)) (l:=l)
    rw [hd,List.append_nil] at h2
    rw [← h2] at h1
    have:=List.all_eq_true.1 (List.all_takeWhile (p:=(· != c)) (l:=l)) c h1
    simp at this
  | cons a t=>
    have:=List.head?_dropWhile_not (· != c) l
    rw [hd] at this
    simp at this
    rw [this];rfl
 cases hd:l.dropWhile (· != c) with
 | nil=>rw [hd] at e;cases e
 | cons a t=>
   rw [hd] at e
   injection e with e
   subst e
   have:=List.takeWhile_append_dropWhile (p:=(· != a)) (l:=l)
   rw [hd] at this
   exact this.symm
theorem unsigned_pos {l:List UInt8} (h:signOf l=false):unsigned l=l:=by unfold unsigned;rw [h];rfl
theorem unsigned_neg {l:List UInt8} (h:signOf l=true):l=45 :: unsigned l:=by
 unfold unsigned;rw [h]
 unfold signOf at h
 cases l with
 | nil=>simp at h
 | cons c l=>simp at h;subst h;rfl
theorem sign_eq (l:List UInt8):l=(if signOf l then [45] else []) ++ unsigned l:=by
 by_cases h:signOf l=true
 · rw [if_pos h];exact unsigned_neg h
 · rw [if_neg h,unsigned_pos (by simpa using h)];rfl
theorem signOf_digits {l t:List UInt8} (h:isDigs l=true):signOf (l ++ t)=false:=by
 simp [isDigs] at h
 unfold signOf
 cases l with
 | nil=>simp at h
 | cons c l=>
   have hc:=h.1 c List.mem_cons_self
   simp
   rintro rfl
   simp [isDig_minus] at hc
theorem frac_cut {l:List UInt8} {q:Rat} (h:l=fracText q):signOf l=decide (q.num<0) ∧ ahead 47 (unsigned l)=dec q.num.natAbs ∧ has 47 (unsigned l)=decide (q.den≠1) ∧
 (q.den≠1 → behind 47 (unsigned l)=dec q.den):=by
 have hn:signOf (dec q.num.natAbs ++ (if q.den=1 then [] else 47 :: dec q.den))=false:=signOf_digits (dec_isDigs _)
 have hs:signOf l=decide (q.num<0):=by
  rw [h,fracText,List.append_assoc]
  by_cases h0:q.num<0
  · rw [if_pos h0];simp [signOf,h0]
  · rw [if_neg h0,List.nil_append,hn];simp [h0]
 have hu:unsigned l=dec q.num.natAbs ++ (if q.den=1 then [] else 47 :: dec q.den):=by
  by_cases h0:q.num<0
  · have:=unsigned_neg (l:=l) (by rw [hs];simpa using h0)
    rw [h,fracText,if_pos h0] at this
    simp only [List.cons_append,List.nil_append,List.cons.injEq,true_and] at this
    rw [h,fracText,if_pos h0]
    simp only [List.cons_append,List.nil_append]
    rw [← this]
  · rw [unsigned_pos (by rw [hs];simpa using h0),h,fracText,if_neg h0,List.nil_append]
 refine ⟨hs,?_⟩
 rw [hu]
 by_cases hd:q.den=1
 · rw [if_pos hd,List.append_nil]
   have hh:=has_digits (dec_all q.num.natAbs) isDig_slash
   refine ⟨ahead_none hh,?_,fun h=>absurd hd h⟩
   rw [hh];simp [hd]
 · rw [if_neg hd]
   exact ⟨ahead_cut (dec_all _) isDig_slash _,by rw [has_cut];simp [hd],fun _=>behind_cut (dec_all _) isDig_slash _⟩
theorem fracText_inj {p q:Rat} (h:fracText p=fracText q):p=q:=by
 have h1:=frac_cut (l:=fracText p) rfl
 have h2:=frac_cut (l:=fracText p) h
 have e1:dec p.num.natAbs=dec q.num.natAbs:=h1.2.1.symm.trans h2.2.1
 have e2:=dec_inj e1
 have e3:decide (p.num<0)=decide (q.num<0):=h1.1.symm.trans h2.1
 have e4:decide (p.den≠1)=decide (q.den≠1):=h1.2.2.1.symm.trans h2.2.2.1
 have e5:(p.num<0)↔(q.num<0):=by simpa using e3
 have e6:(p.den=1)↔(q.den=1):=by
  have:(p.den≠1)↔(q.den≠1):=decide_eq_decide.1 e4
  omega
 apply Rat.ext
 · by_cases h0:p.num<0
   · have:=e5.1 h0;omega
   · have:¬ q.num<0:=fun h=>h0 (e5.2 h)
     omega
 · by_cases hd:p.den=1
   · rw [hd,e6.1 hd]
   · have hd' :q.den≠1:=fun h=>hd (e6.2 h)
     exact dec_inj ((h1.2.2.2 hd).symm.trans (h2.2.2.2 hd'))
def plainDigs (l:List UInt8):Bool:=isDigs l && (l.head? != some 48 || l.length == 1) && decide (l.length ≤ 50000)
theorem plain_dec {n:Nat} (h:(dec n).length ≤ 50000):plainDigs (dec n)=true:=by
 unfold plainDigs
 rw [dec_isDigs]
 by_cases hn:n=0
 · subst hn;rw [dec_zero];decide
 · have h1:((dec n).head? != some 48)=true:=by
    rw [bne_iff_ne]
    intro h2
    exact dec_head n hn 48 h2 rfl
   rw [h1];simp [h]
theorem plain_spec {l:List UInt8} (h:plainDigs l=true):dec (decVal l)=l ∧ l.length ≤ 50000 ∧ isDigs l=true:=by
 unfold plainDigs at h
 simp only [Bool.and_eq_true,Bool.or_eq_true,bne_iff_ne,ne_eq,beq_iff_eq,decide_eq_true_eq] at h
 exact ⟨dec_decVal h.1.1 h.1.2,h.2,h.1.1⟩
theorem frac_of_parts {l:List UInt8} (hn:plainDigs (ahead 47 (unsigned l))=true) (h0:signOf l=true → ahead 47 (unsigned l)≠[48])
 (hd:has 47 (unsigned l)=true → plainDigs (behind 47 (unsigned l))=true ∧ behind 47 (unsigned l)≠[48] ∧ behind 47 (unsigned l)≠[49] ∧
   Nat.Coprime (decVal (ahead 47 (unsigned l))) (decVal (behind 47 (unsigned l)))):
 IsFrac l (ratOf (signOf l) (decVal (ahead 47 (unsigned l))) (if has 47 (unsigned l) then decVal (behind 47 (unsigned l)) else 1)):=by
 obtain ⟨e1,l1,_⟩:=plain_spec hn
 have hl:=sign_eq l
 generalize hs:signOf l=s at*
 generalize hu:unsigned l=u at*
 have hneg:s=true → decVal (ahead 47 u)≠0:=by
  intro hs' h
  rw [h,dec_zero] at e1
  exact h0 hs' e1.symm
 by_cases hh:has 47 u=true
 · obtain ⟨hd1,hd2,hd3,hc⟩:=hd hh
   obtain ⟨e2,l2,_⟩:=plain_spec hd1
   have hz:decVal (behind 47 u)≠0:=by
    intro h;rw [h,dec_zero] at e2;exact hd2 e2.symm
   have h1:decVal (behind 47 u)≠1:=by
    intro h;rw [h] at e2;exact hd3 (by rw [← e2];simp [dec,digs_pos (β:=10) (n:=1) (by omega) (by omega),digs_zero];decide)
   rw [if_pos hh]
   obtain ⟨p1,p2⟩:=ratOf_parts (neg:=s) hc hz
   have p3:(ratOf s (decVal (ahead 47 u)) (decVal (behind 47 u))).num.natAbs=decVal (ahead 47 u):=by rw [p1];cases s<;>simp
   refine ⟨?_,by unfold Short;rw [p2,p3,e1,e2];exact ⟨l1,l2⟩⟩
   unfold fracText
   rw [p2,p3,e1,e2,if_neg h1,p1,hl]
   rw [List.append_assoc]
   congr 1
   · cases s with
     | false=>rw [if_neg (by simp),if_neg (by simp)]
     | true=>rw [if_pos rfl,if_pos rfl,if_pos (by have:=hneg rfl;omega)]
   · exact cut_eq hh
 · rw [if_neg hh]
   have hh' :has 47 u=false:=by simpa using hh
   have eu:=ahead_none hh'
   obtain ⟨p1,p2⟩:=ratOf_parts (neg:=s) (n:=decVal (ahead 47 u)) (d:=1) (by simp) (by omega)
   have p3:(ratOf s (decVal (ahead 47 u)) 1).num.natAbs=decVal (ahead 47 u):=by rw [p1];cases s<;>simp
   refine ⟨?_,by
    unfold Short;rw [p2,p3,e1]
    exact ⟨l1,by simp [dec,digs_pos (β:=10) (n:=1) (by omega) (by omega),digs_zero]⟩⟩
   unfold fracText
   rw [p2,p3,e1,p1,hl,if_pos rfl,List.append_nil,eu]
   congr 1
   cases s with
   | false=>rw [if_neg (by simp),if_neg (by simp)]
   | true=>rw [if_pos rfl,if_pos rfl,if_pos (by have:=hneg rfl;rw [eu] at this;omega)]
theorem dec_one:dec 1=[49]:=by simp [dec,digs_pos (β:=10) (n:=1) (by omega) (by omega),digs_zero];decide
theorem parts_of_frac {l:List UInt8} {q:Rat} (h:IsFrac l q):
 plainDigs (ahead 47 (unsigned l))=true ∧ (signOf l=true → ahead 47 (unsigned l)≠[48]) ∧
 (has 47 (unsigned l)=true → plainDigs (behind 47 (unsigned l))=true ∧ behind 47 (unsigned l)≠[48] ∧ behind 47 (unsigned l)≠[49] ∧
   ahead 47 (unsigned l)≠[48] ∧ Nat.Coprime (decVal (ahead 47 (unsigned l))) (decVal (behind 47 (unsigned l)))) ∧
 q=ratOf (signOf l) (decVal (ahead 47 (unsigned l))) (if has 47 (unsigned l) then decVal (behind 47 (unsigned l)) else 1):=by
 obtain ⟨h1,h2,h3,h4⟩:=frac_cut h.1
 have hsh:=h.2
 have hz:dec q.num.natAbs=[48] → q.num=0:=by
  intro e
  have:q.num.natAbs=0:=dec_inj (e.trans dec_zero.symm)
  omega
 have hnum:q.num=if decide (q.num<0)=true then -(q.num.natAbs:Int) else q.num.natAbs:=by
  by_cases h0:q.num<0
  · simp [h0];omega
  · simp [h0];omega
 refine ⟨by rw [h2];exact plain_dec hsh.1,?_,?_,?_⟩
 · rw [h1,h2]
   intro h0 e
   have:=hz e
   simp at h0
   omega
 · rw [h3]
   intro hd
   have hd' :q.den≠1:=by simpa using hd
   rw [h2,h4 hd',decVal_dec,decVal_dec]
   refine ⟨plain_dec hsh.2,?_,?_,?_,q.reduced⟩
   · intro e;exact q.den_nz (dec_inj (e.trans dec_zero.symm))
   · intro e;exact hd' (dec_inj (e.trans dec_one.symm))
   · intro e
     have h0:=hz e
     have:=q.reduced
     rw [h0] at this
     simp at this
     exact hd' this
 · rw [h1,h2,h3,decVal_dec]
   by_cases hd:q.den=1
   · have:decide (q.den≠1)=false:=by simp [hd]
     rw [this,if_neg (by simp),ratOf, ← hnum]
     conv=>lhs;rw [← Rat.num_divInt_den q,hd]
   · have:decide (q.den≠1)=true:=by simp [hd]
     rw [this,if_pos rfl,h4 hd,decVal_dec,ratOf, ← hnum,Rat.num_divInt_den]
def readFrac (l:List UInt8):Option Rat:=
 let q:=ratOf (signOf l) (decVal (ahead 47 (unsigned l))) (if has 47 (unsigned l) then decVal (behind 47 (unsigned l)) else 1)
 if l=fracText q ∧ Short 50000 q then some q else none
theorem readFrac_some {l:List UInt8} {q:Rat}:readFrac l=some q↔IsFrac l q:=by
 unfold readFrac
 constructor
 · intro h
   simp only at h
   generalize ratOf (signOf l) (decVal (ahead 47 (unsigned l))) (if has 47 (unsigned l) then decVal (behind 47 (unsigned l)) else 1)=r at h
   split at h
   · rename_i h1;injection h with h;subst h;exact h1
   · cases h
 · intro h
   have e:=(parts_of_frac h).2.2.2
   simp only
   rw [← e]
   exact if_pos h
theorem readFrac_none {l:List UInt8}:readFrac l=none↔∀ q,¬ IsFrac l q:=by
 constructor
 · intro h q hq;rw [readFrac_some.2 hq] at h;cases h
 · intro h
   cases hr:readFrac l with
   | none=>rfl
   | some q=>exact absurd (readFrac_some.1 hr) (h q)
theorem readFrac_text {q:Rat} (h:Short 50000 q):readFrac (fracText q)=some q:=readFrac_some.2 ⟨rfl,h⟩
end Go.Proofs.YtnmkalocbfdecaaGreatDoor
namespace Go.Proofs.YtnmkalocbfdecaaGreatDoor
theorem read_no1 {l:List UInt8} (h:plainDigs (ahead 47 (unsigned l))=false):readFrac l=none:=by
 rw [readFrac_none]
 intro q hq
 have:=(parts_of_frac hq).1
 rw [h] at this;cases this
theorem read_no2 {l:List UInt8} (h:signOf l=true) (h0:ahead 47 (unsigned l)=[48]):readFrac l=none:=by
 rw [readFrac_none]
 intro q hq
 exact (parts_of_frac hq).2.1 h h0
theorem read_no3 {l:List UInt8} (h:has 47 (unsigned l)=true) (h0:plainDigs (behind 47 (unsigned l))=false ∨ behind 47 (unsigned l)=[48] ∨ behind 47 (unsigned l)=[49] ∨ ahead 47 (unsigned l)=[48]):readFrac l=none:=by
 rw [readFrac_none]
 intro q hq
 obtain ⟨h1,h2,h3,h4,_⟩:=(parts_of_frac hq).2.2.1 h
 rcases h0 with h0 | h0 | h0 | h0
 · rw [h0] at h1;cases h1
 · exact h2 h0
 · exact h3 h0
 · exact h4 h0
theorem ratOf_one (s:Bool) (n:Nat):(ratOf s n 1).num=(if s then -(n:Int) else n) ∧ (ratOf s n 1).den=1:=ratOf_parts (by simp) (by omega)
theorem read_whole {l:List UInt8} (h:plainDigs (ahead 47 (unsigned l))=true) (h0:signOf l=true → ahead 47 (unsigned l)≠[48]) (hh:has 47 (unsigned l)=false):readFrac l=some (ratOf (signOf l) (decVal (ahead 47 (unsigned l))) 1):=by
 rw [readFrac_some]
 have:=frac_of_parts h h0 (by rw [hh];intro h;cases h)
 rw [hh] at this
 simpa using this
theorem coprime_of_den {s:Bool} {n d:Nat} (hd:d≠0) (h:(ratOf s n d).den=d):Nat.Coprime n d:=by
 unfold ratOf at h
 rw [Rat.den_divInt,if_neg (by omega)] at h
 have hg:(d:Int).gcd (if s then -(n:Int) else n)=Nat.gcd n d:=by
  cases s<;>simp [Int.gcd,Nat.gcd_comm]
 rw [hg] at h
 have h1:0<Nat.gcd n d:=Nat.gcd_pos_of_pos_right _ (by omega)
 have h2:Nat.gcd n d ∣ d:=Nat.gcd_dvd_right n d
 obtain ⟨k,hk⟩:=h2
 have h3:d / Nat.gcd n d=k:=by
  conv=>lhs;lhs;rw [hk]
  exact Nat.mul_div_cancel_left _ h1
 have h4:(d:Int).natAbs=d:=Int.natAbs_natCast d
 rw [h4,h3] at h
 have h5:Nat.gcd n d*d=1*d:=by rw [Nat.one_mul];conv=>lhs;rhs;rw [← h]
                               exact hk.symm
 exact Nat.eq_of_mul_eq_mul_right (by omega) h5
theorem read_quot {l:List UInt8} (h:plainDigs (ahead 47 (unsigned l))=true) (h0:signOf l=true → ahead 47 (unsigned l)≠[48]) (hh:has 47 (unsigned l)=true)
 (h1:plainDigs (behind 47 (unsigned l))=true) (h2:behind 47 (unsigned l)≠[48]) (h3:behind 47 (unsigned l)≠[49]):
 readFrac l=if (ratOf (signOf l) (decVal (ahead 47 (unsigned l))) (decVal (behind 47 (unsigned l)))).den=decVal (behind 47 (unsigned l)) then some (ratOf (signOf l) (decVal (ahead 47 (unsigned l))) (decVal (behind 47 (unsigned l)))) else none:=by
 have hz:decVal (behind 47 (unsigned l))≠0:=by
  intro e
  have:=(plain_spec h1).1
  rw [e,dec_zero] at this
  exact h2 this.symm
 split
 · rename_i hd
   rw [readFrac_some]
   have:=frac_of_parts h h0 (fun _=>⟨h1,h2,h3,coprime_of_den hz hd⟩)
   rw [hh] at this
   simpa using this
 · rename_i hd
   rw [readFrac_none]
   intro q hq
   apply hd
   exact (ratOf_parts ((parts_of_frac hq).2.2.1 hh).2.2.2.2 hz).2
theorem plain_ne_zero {l:List UInt8} (h1:plainDigs l=true) (h2:l≠[48]):decVal l≠0:=by
 intro e
 have:=(plain_spec h1).1
 rw [e,dec_zero] at this
 exact h2 this.symm
theorem plain_len {l:List UInt8} (h:plainDigs l=true):len 4294967296 (decVal l) ≤ 50000:=by
 obtain ⟨h1,h2,h3⟩:=plain_spec h
 have h4:=len_le_dec (β:=4294967296) (n:=decVal l) (by omega)
 rw [h1] at h4
 omega
theorem plain_all {l:List UInt8} (h:plainDigs l=true):l.all isDig=true ∧ l.length ≤ 50000:=by
 obtain ⟨h1,h2,h3⟩:=plain_spec h
 unfold isDigs at h3
 rw [Bool.and_eq_true] at h3
 exact ⟨h3.1,h2⟩
theorem Short.len {M:Nat} {q:Rat} (h:Short M q):Go.Proofs.YtnmkalocbfdecaaGreatDoor.len 4294967296 q.num.natAbs ≤ M ∧ Go.Proofs.YtnmkalocbfdecaaGreatDoor.len 4294967296 (q.den:Int).natAbs ≤ M:=
 ⟨Nat.le_trans (len_le_dec (by omega)) h.1,by rw [Int.natAbs_natCast];exact Nat.le_trans (len_le_dec (by omega)) h.2⟩
end Go.Proofs.YtnmkalocbfdecaaGreatDoor
namespace Go.Proofs.YtnmkalocbfdecaaGreatDoor
theorem cast_ne {a:Int} (h:a≠0):(a:Rat)≠0:=by
 intro e
 exact h (by exact_mod_cast e)
end Go.Proofs.YtnmkalocbfdecaaGreatDoor
namespace Go.Proofs.YtnmkalocbfdecaaGreatDoor
def Sz (X:Nat) (q:Rat):Prop:=q.num.natAbs ≤ X ∧ q.den ≤ X
theorem Sz.mono {X Y:Nat} {q:Rat} (h:Sz X q) (hXY:X ≤ Y):Sz Y q:=⟨Nat.le_trans h.1 hXY,Nat.le_trans h.2 hXY⟩
theorem sz_of {X:Nat} {q:Rat} {s M:Int} (hs:s≠0) (h:q*s=M) (h1:M.natAbs ≤ X) (h2:s.natAbs ≤ X):Sz X q:=by
 have e:q=Rat.divInt M s:=by
  have h3:=cast_ne hs
  rw [Rat.divInt_eq_div, ← h]
  grind
 have hg:(s.gcd M:Int) ∣ s.sign*M:=Int.dvd_trans (Int.gcd_dvd_right s M) (Int.dvd_mul_left _ _)
 have hg0:0<s.gcd M:=Int.gcd_pos_of_ne_zero_left _ hs
 have hsn:(s.sign*M).natAbs ≤ M.natAbs:=by
  rw [Int.natAbs_mul,Int.natAbs_sign,if_neg hs];omega
 constructor
 · rw [e,Rat.num_divInt]
   obtain ⟨t,ht⟩:=hg
   rw [ht,Int.mul_ediv_cancel_left _ (by omega)]
   rw [ht,Int.natAbs_mul] at hsn
   have h3:t.natAbs ≤ (s.gcd M:Int).natAbs*t.natAbs:=Nat.le_mul_of_pos_left _ (by simpa using hg0)
   omega
 · rw [e,Rat.den_divInt,if_neg hs]
   exact Nat.le_trans (Nat.div_le_self _ _) h2
theorem den_cast_ne (q:Rat):((q.den:Int):Rat)≠0:=cast_ne (by have:=q.den_nz;omega)
theorem mul_den (q:Rat):q*((q.den:Int):Rat)=(q.num:Rat):=by
 have h:=den_cast_ne q
 conv=>lhs;lhs;rw [← Rat.num_divInt_den q]
 rw [Rat.divInt_eq_div]
 grind
theorem Sz.zero:Sz 1 0:=⟨by decide,by decide⟩
theorem Sz.one:Sz 1 1:=⟨by decide,by decide⟩
theorem Sz.neg {X:Nat} {q:Rat} (h:Sz X q):Sz X (-q):=⟨by rw [Rat.neg_num,Int.natAbs_neg];exact h.1,by rw [Rat.neg_den];exact h.2⟩
theorem Sz.mul {X Y:Nat} {p q:Rat} (hp:Sz X p) (hq:Sz Y q):Sz (X*Y) (p*q):=by
 refine sz_of (s:=(p.den:Int)*q.den) (M:=p.num*q.num) (Int.mul_ne_zero (by have:=p.den_nz;omega) (by have:=q.den_nz;omega)) ?_ ?_ ?_
 · have h1:=mul_den p
   have h2:=mul_den q
   push_cast at h1 h2 ⊢
   rw [← h1, ← h2];grind
 · rw [Int.natAbs_mul];exact Nat.mul_le_mul hp.1 hq.1
 · rw [Int.natAbs_mul];exact Nat.mul_le_mul (by simpa using hp.2) (by simpa using hq.2)
theorem Sz.add {X Y:Nat} {p q:Rat} (hp:Sz X p) (hq:Sz Y q):Sz (2*(X*Y)) (p+q):=by
 refine sz_of (s:=(p.den:Int)*q.den) (M:=p.num*q.den+q.num*p.den) (Int.mul_ne_zero (by have:=p.den_nz;omega) (by have:=q.den_nz;omega)) ?_ ?_ ?_
 · have h1:=mul_den p
   have h2:=mul_den q
   push_cast at h1 h2 ⊢
   rw [← h1, ← h2];grind
 · have h1:(p.num*q.den+q.num*p.den).natAbs ≤ (p.num*q.den).natAbs+(q.num*p.den).natAbs:=by omega
   rw [Int.natAbs_mul,Int.natAbs_mul] at h1
   have h2:=Nat.mul_le_mul hp.1 (show (q.den:Int).natAbs ≤ Y by simpa using hq.2)
   have h3:=Nat.mul_le_mul hq.1 (show (p.den:Int).natAbs ≤ X by simpa using hp.2)
   rw [Nat.mul_comm Y X] at h3
   omega
 · rw [Int.natAbs_mul]
   have:=Nat.mul_le_mul (show (p.den:Int).natAbs ≤ X by simpa using hp.2) (show (q.den:Int).natAbs ≤ Y by simpa using hq.2)
   omega
theorem Sz.short {X e:Nat} {q:Rat} (h:Sz X q) (hX:X<10 ^ e) (he:0<e):Short e q:=⟨dec_length_le (by have:=h.1;omega) he,dec_length_le (by have:=h.2;omega) he⟩
theorem Short.sz {e:Nat} {q:Rat} (h:Short e q):Sz (10 ^ e) q:=⟨Nat.le_of_lt (lt_of_dec_length h.1),Nat.le_of_lt (lt_of_dec_length h.2)⟩
abbrev Dz (e:Nat) (q:Rat):Prop:=Sz (10 ^ e) q
theorem Dz.add {e f g:Nat} {p q:Rat} (hp:Dz e p) (hq:Dz f q) (hg:e+f+1 ≤ g):Dz g (p+q):=by
 refine (Sz.add hp hq).mono ?_
 have h1:10 ^ (e+f+1) ≤ 10 ^ g:=Nat.pow_le_pow_right (by omega) hg
 rw [Nat.pow_succ,Nat.pow_add] at h1
 omega
theorem Dz.sub {e f g:Nat} {p q:Rat} (hp:Dz e p) (hq:Dz f q) (hg:e+f+1 ≤ g):Dz g (p - q):=by rw [Rat.sub_eq_add_neg];exact Dz.add hp (Sz.neg hq) hg
theorem Dz.mul {e f g:Nat} {p q:Rat} (hp:Dz e p) (hq:Dz f q) (hg:e+f ≤ g):Dz g (p*q):=by
 refine (Sz.mul hp hq).mono ?_
 rw [← Nat.pow_add]
 exact Nat.pow_le_pow_right (by omega) hg
theorem Dz.more {e f:Nat} {q:Rat} (h:Dz e q) (hf:e ≤ f):Dz f q:=h.mono (Nat.pow_le_pow_right (by omega) hf)
theorem Dz.short {e f:Nat} {q:Rat} (h:Dz e q) (hf:e<f):Short f q:=Sz.short h (Nat.pow_lt_pow_right (by omega) hf) (by omega)
theorem Dz.zero (e:Nat):Dz e 0:=Sz.zero.mono (Nat.pow_pos (by omega))
theorem Dz.one (e:Nat):Dz e 1:=Sz.one.mono (Nat.pow_pos (by omega))
end Go.Proofs.YtnmkalocbfdecaaGreatDoor
namespace Go.Proofs.YtnmkalocbfdecaaGreatDoor
structure Dict where
 den:Int
 cell:Nat → Nat → Int
 basic:Nat → Nat
 other:Nat → Nat
def Dict.bare (T:Dict) (r c:Nat):Nat → Nat → Int:=fun i k=>
 if i=r then (if k=c then T.den else -(T.cell r k)) else if k=c then T.cell i c else (T.cell i k*T.cell r c - T.cell i c*T.cell r k).tdiv T.den
def Dict.pivot (T:Dict) (r c:Nat):Dict:=
 { den:=if T.cell r c<0 then -(T.cell r c) else T.cell r c,
    cell:=fun i k=>if T.cell r c<0 then -(T.bare r c i k) else T.bare r c i k,
    basic:=fun i=>if i=r then T.other (c - 1) else T.basic i,
    other:=fun k=>if k=c - 1 then T.basic r else T.other k }
def Dict.enter (T:Dict) (m:Nat) (but:Int):Nat → Nat
 | 0=>0
 | n+1=>if (T.other n:Int)≠but ∧ 0<T.cell m (n+1) ∧ (T.enter m but n=0 ∨ T.other n<T.other (T.enter m but n - 1)) then n+1 else T.enter m but n
def Dict.ahead (T:Dict) (room c i j:Nat):Prop:=
 T.cell i 0* -(T.cell j c)<T.cell j 0* -(T.cell i c) ∨ (T.cell i 0* -(T.cell j c)=T.cell j 0* -(T.cell i c) ∧ (T.basic i=room ∨ (T.basic j≠room ∧ T.basic i<T.basic j)))
instance (T:Dict) (room c i j:Nat):Decidable (T.ahead room c i j):=by unfold Dict.ahead;exact inferInstance
def Dict.leave (T:Dict) (room c:Nat):Nat → Option Nat
 | 0=>none
 | n+1=>if T.cell n c ≥ 0 then T.leave room c n else match T.leave room c n with
   | none=>some n
   | some j=>if T.ahead room c n j then some n else some j
def Fit (z:Int):Prop:=len 4294967296 z.natAbs ≤ 8388608
structure Dict.Fits (T:Dict) (m L:Nat):Prop where
 den:0<T.den
 fden:Fit T.den
 cell:∀ i k,i ≤ m → k<L → Fit (T.cell i k)
theorem Dict.enter_le (T:Dict) (m:Nat) (but:Int) (n:Nat):T.enter m but n ≤ n:=by
 induction n with
 | zero=>exact Nat.le_refl 0
 | succ n ih=>
   unfold Dict.enter
   split
   · exact Nat.le_refl _
   · omega
theorem Dict.leave_lt (T:Dict) (room c:Nat):∀ (n j:Nat),T.leave room c n=some j → j<n ∧ T.cell j c<0
 | 0,j,h=>by cases h
 | n+1,j,h=>by
   unfold Dict.leave at h
   split at h
   · have:=Dict.leave_lt T room c n j h;exact ⟨by omega,this.2⟩
   · rename_i hc
     split at h
     · injection h with h;subst h;exact ⟨by omega,by omega⟩
     · rename_i j' hj
       split at h
       · injection h with h;subst h;exact ⟨by omega,by omega⟩
       · injection h with h;subst h
         have:=Dict.leave_lt T room c n j' hj;exact ⟨by omega,this.2⟩
end Go.Proofs.YtnmkalocbfdecaaGreatDoor
namespace Go.Proofs.YtnmkalocbfdecaaGreatDoor
def Dict.stA (T:Dict) (r c i k:Nat):Nat → Nat → Int:=fun i' k' =>if i' ≠r ∧ (i' <i ∨ (i' =i ∧ k' <k)) then T.bare r c i' k' else T.cell i' k'
def Dict.stB (T:Dict) (r c k:Nat):Nat → Nat → Int:=fun i' k' =>if i' =r then (if k' <k ∧ k' ≠c then -(T.cell r k') else T.cell r k') else T.bare r c i' k'
def stD (A:Nat → Nat → Int) (i k:Nat):Nat → Nat → Int:=fun i' k' =>if i' <i ∨ (i' =i ∧ k' <k) then -(A i' k') else A i' k'
section
variable (T:Dict) (r c i k m L:Nat)
theorem Dict.bare_col (h:i≠r):T.bare r c i c=T.cell i c:=by unfold Dict.bare;rw [if_neg h,if_pos rfl]
theorem Dict.stA_start (i' k' :Nat):T.stA r c 0 0 i' k' =T.cell i' k' :=by unfold Dict.stA;rw [if_neg (by omega)]
theorem Dict.stA_skip (i' k' :Nat):T.stA r c (r+1) 0 i' k' =T.stA r c r 0 i' k' :=by
 unfold Dict.stA
 by_cases h:i' ≠r ∧ (i' <r ∨ (i' =r ∧ k' <0))
 · rw [if_pos h,if_pos (by omega)]
 · rw [if_neg h,if_neg (by omega)]
theorem Dict.stA_here:T.stA r c i k i k=T.cell i k:=by unfold Dict.stA;rw [if_neg (by omega)]
theorem Dict.stA_row (k' :Nat):T.stA r c i k r k' =T.cell r k' :=by unfold Dict.stA;rw [if_neg (by omega)]
theorem Dict.stA_col0:T.stA r c i 0 i c=T.cell i c:=by unfold Dict.stA;rw [if_neg (by omega)]
theorem Dict.stA_next (hi:i≠r) (hk:k≠c) (i' k' :Nat):T.stA r c i (k+1) i' k' =if i' =i ∧ k' =k then (T.cell i k*T.cell r c - T.cell i c*T.cell r k).tdiv T.den else T.stA r c i k i' k' :=by
 unfold Dict.stA
 by_cases h:i' =i ∧ k' =k
 · obtain ⟨rfl,rfl⟩:=h
   rw [if_pos (by omega),if_pos ⟨rfl,rfl⟩]
   unfold Dict.bare
   rw [if_neg hi,if_neg hk]
 · rw [if_neg h]
   by_cases h2:i' ≠r ∧ (i' <i ∨ (i' =i ∧ k' <k))
   · rw [if_pos h2,if_pos (by omega)]
   · rw [if_neg h2,if_neg (by omega)]
theorem Dict.stA_col (hi:i≠r) (i' k' :Nat):T.stA r c i (c+1) i' k' =T.stA r c i c i' k' :=by
 unfold Dict.stA
 by_cases h:i' =i ∧ k' =c
 · obtain ⟨rfl,rfl⟩:=h
   rw [if_pos (by omega),if_neg (by omega),Dict.bare_col T r k' i' hi]
 · by_cases h2:i' ≠r ∧ (i' <i ∨ (i' =i ∧ k' <c))
   · rw [if_pos h2,if_pos (by omega)]
   · rw [if_neg h2,if_neg (by omega)]
theorem Dict.stA_end (hi:i≠r) (i' k' :Nat) (hk:k' <L):T.stA r c (i+1) 0 i' k' =if i' =i ∧ k' =c then T.cell i c else T.stA r c i L i' k' :=by
 unfold Dict.stA
 by_cases h:i' =i ∧ k' =c
 · obtain ⟨rfl,rfl⟩:=h
   rw [if_pos (by omega),if_pos ⟨rfl,rfl⟩,Dict.bare_col T r k' i' hi]
 · rw [if_neg h]
   by_cases h2:i' ≠r ∧ (i' <i ∨ (i' =i ∧ k' <L))
   · rw [if_pos h2,if_pos (by omega)]
   · rw [if_neg h2,if_neg (by omega)]
theorem Dict.stB_start (i' k' :Nat) (h:i' ≤ m):T.stB r c 0 i' k' =T.stA r c (m+1) 0 i' k' :=by
 unfold Dict.stB Dict.stA
 by_cases h1:i' =r
 · subst h1;rw [if_pos rfl,if_neg (by omega),if_neg (by omega)]
 · rw [if_neg h1,if_pos (by omega)]
theorem Dict.stB_here:T.stB r c k r k=T.cell r k:=by unfold Dict.stB;rw [if_pos rfl,if_neg (by omega)]
theorem Dict.stB_next (hk:k≠c) (i' k' :Nat):T.stB r c (k+1) i' k' =if i' =r ∧ k' =k then -(T.cell r k) else T.stB r c k i' k' :=by
 unfold Dict.stB
 by_cases h1:i' =r
 · subst h1
   by_cases h2:k' =k
   · subst h2;rw [if_pos rfl,if_pos (by omega),if_pos ⟨rfl,rfl⟩]
   · rw [if_pos rfl,if_neg (show ¬ (i' =i' ∧ k' =k) from fun h=>h2 h.2),if_pos rfl]
     by_cases h3:k' <k ∧ k' ≠c
     · rw [if_pos h3,if_pos (by omega)]
     · rw [if_neg h3,if_neg (by omega)]
 · rw [if_neg h1,if_neg (show ¬ (i' =r ∧ k' =k) from fun h=>h1 h.1),if_neg h1]
theorem Dict.stB_col (i' k' :Nat):T.stB r c (c+1) i' k' =T.stB r c c i' k' :=by
 unfold Dict.stB
 by_cases h1:i' =r
 · rw [if_pos h1,if_pos h1]
   by_cases h3:k' <c ∧ k' ≠c
   · rw [if_pos h3,if_pos (by omega)]
   · rw [if_neg h3,if_neg (by omega)]
 · rw [if_neg h1,if_neg h1]
theorem Dict.stB_end (i' k' :Nat) (hk:k' <L):T.bare r c i' k' =if i' =r ∧ k' =c then T.den else T.stB r c L i' k' :=by
 unfold Dict.stB Dict.bare
 by_cases h1:i' =r
 · subst h1
   by_cases h2:k' =c
   · subst h2;rw [if_pos rfl,if_pos rfl,if_pos ⟨rfl,rfl⟩]
   · rw [if_pos rfl,if_neg h2,if_neg (show ¬ (i' =i' ∧ k' =c) from fun h=>h2 h.2),if_pos rfl,if_pos ⟨hk,h2⟩]
 · rw [if_neg h1,if_neg (show ¬ (i' =r ∧ k' =c) from fun h=>h1 h.1),if_neg h1]
end
section
variable (A:Nat → Nat → Int) (i k m L:Nat)
theorem stD_start (i' k' :Nat):stD A 0 0 i' k' =A i' k' :=by unfold stD;rw [if_neg (by omega)]
theorem stD_here:stD A i k i k=A i k:=by unfold stD;rw [if_neg (by omega)]
theorem stD_next (i' k' :Nat):stD A i (k+1) i' k' =if i' =i ∧ k' =k then -(A i k) else stD A i k i' k' :=by
 unfold stD
 by_cases h:i' =i ∧ k' =k
 · obtain ⟨rfl,rfl⟩:=h
   rw [if_pos (by omega),if_pos ⟨rfl,rfl⟩]
 · rw [if_neg h]
   by_cases h2:i' <i ∨ (i' =i ∧ k' <k)
   · rw [if_pos h2,if_pos (by omega)]
   · rw [if_neg h2,if_neg (by omega)]
theorem stD_row (i' k' :Nat) (hk:k' <L):stD A (i+1) 0 i' k' =stD A i L i' k' :=by
 unfold stD
 by_cases h2:i' <i ∨ (i' =i ∧ k' <L)
 · rw [if_pos h2,if_pos (by omega)]
 · rw [if_neg h2,if_neg (by omega)]
theorem stD_end (i' k' :Nat) (hi:i' ≤ m):stD A (m+1) 0 i' k' = -(A i' k'):=by unfold stD;rw [if_pos (by omega)]
end
end Go.Proofs.YtnmkalocbfdecaaGreatDoor
