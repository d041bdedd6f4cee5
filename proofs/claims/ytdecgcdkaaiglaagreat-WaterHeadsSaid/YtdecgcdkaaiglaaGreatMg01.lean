/- Parts of the proof: memory, numbers, walks of the functions that are called. -/
import Init.Data.List.Lemmas
set_option linter.unusedVariables false
set_option linter.unusedSimpArgs false
namespace Go.Proofs.YtdecgcdkaaiglaaGreat
def val (β : Nat) : List Nat -> Nat
 | [] => 0
 | d :: ds => d + β * val β ds
def zA (β : Nat) (ds : List Nat) : Prop := ∀ d ∈ ds, d < β
def yM (β : Nat) (ds : List Nat) : Prop := zA β ds /\ ds.getLast? ≠ some 0
theorem vx (β : Nat) : val β [] = 0 := rfl
theorem Yu (β d : Nat) (ds : List Nat) : val β (d :: ds) = d + β * val β ds := rfl
theorem Yf (β d : Nat) : val β [d] = d := by simp [val]
theorem ZT (β : Nat) (a b : List Nat) : val β (a ++ b) = val β a + β ^ a.length * val β b := by
 induction a with
 | nil => simp [val]
 | cons d a ih => simp only [List.cons_append, Yu, ih, List.length_cons, Nat.pow_succ, Nat.mul_add, Nat.add_assoc]; rw [Nat.mul_comm (β ^ a.length) β, Nat.mul_assoc]
theorem Z7 (β : Nat) (a : List Nat) (d : Nat) : val β (a ++ [d]) = val β a + β ^ a.length * d := by rw [ZT, Yf]
theorem V6 (β n : Nat) : val β (List.replicate n 0) = 0 := by
 induction n with
 | zero => rfl
 | succ n ih => rw [List.replicate_succ, Yu, ih]; simp
theorem zA.nil (β : Nat) : zA β [] := fun _ h => by cases h
theorem zA.append {β : Nat} {a b : List Nat} (ha : zA β a) (hb : zA β b) : zA β (a ++ b) := fun d h => by
 rcases List.mem_append.1 h with h | h
 . exact ha d h
 . exact hb d h
theorem zA.cons {β d : Nat} {a : List Nat} (hd : d < β) (ha : zA β a) : zA β (d :: a) := fun x h => by
 rcases List.mem_cons.1 h with h | h
 . omega
 . exact ha x h
theorem zA.tail {β d : Nat} {a : List Nat} (h : zA β (d :: a)) : zA β a := fun x hx => h x (List.mem_cons_of_mem _ hx)
theorem zA.head {β d : Nat} {a : List Nat} (h : zA β (d :: a)) : d < β := h d List.mem_cons_self
theorem zA.take {β : Nat} {a : List Nat} (h : zA β a) (k : Nat) : zA β (a.take k) := fun d hd => h d (List.mem_of_mem_take hd)
theorem zA.drop {β : Nat} {a : List Nat} (h : zA β a) (k : Nat) : zA β (a.drop k) := fun d hd => h d (List.mem_of_mem_drop hd)
theorem zA.getD {β : Nat} {a : List Nat} (h : zA β a) (hβ : 0 < β) (k : Nat) : a.getD k 0 < β := by
 rw [List.getD_eq_getElem?_getD]
 by_cases hk : k < a.length
 . rw [List.getElem?_eq_getElem hk]; exact h _ (List.getElem_mem hk)
 . rw [List.getElem?_eq_none (by omega)]; exact hβ
theorem zA.get {β : Nat} {a : List Nat} (h : zA β a) (k : Nat) (hk : k < a.length) : a[k] < β := h _ (List.getElem_mem hk)
theorem zA.replicate {β : Nat} (hβ : 0 < β) (n : Nat) : zA β (List.replicate n 0) := fun d hd => by rw [(List.mem_replicate.1 hd).2]; exact hβ
theorem zA.set {β : Nat} {a : List Nat} (h : zA β a) (k d : Nat) (hd : d < β) : zA β (a.set k d) := fun x hx => by
 rcases List.mem_or_eq_of_mem_set hx with hx | hx
 . exact h x hx
 . omega
theorem YB {β : Nat} {ds : List Nat} (h : zA β ds) : val β ds < β ^ ds.length := by
 induction ds with
 | nil => simp [val]
 | cons d ds ih =>
   have h1 := ih h.tail; have h2 := h.head; rw [Yu, List.length_cons, Nat.pow_succ]; have h3 : β * (val β ds + 1) <= β * β ^ ds.length := Nat.mul_le_mul_left _ h1; rw [Nat.mul_add, Nat.mul_one] at h3; rw [Nat.mul_comm (β ^ ds.length) β]
   omega
theorem xn (β : Nat) (ds : List Nat) (k : Nat) (hk : k <= ds.length) : val β ds = val β (ds.take k) + β ^ k * val β (ds.drop k) := by
 conv => lhs; rw [<- List.take_append_drop k ds, ZT, List.length_take, Nat.min_eq_left hk]
theorem XB {α : Type} (ds : List α) (k : Nat) (hk : k < ds.length) : ds.take (k + 1) = ds.take k ++ [ds[k]] := by
 rw [List.take_succ_eq_append_getElem hk]
theorem yC (β : Nat) (ds : List Nat) (k : Nat) (hk : k < ds.length) : val β (ds.take (k + 1)) = val β (ds.take k) + β ^ k * ds[k] := by
 rw [XB ds k hk, Z7, List.length_take, Nat.min_eq_left (by omega)]
theorem ZM (β : Nat) (ds : List Nat) (k : Nat) (hk : k < ds.length) : val β (ds.drop k) = ds[k] + β * val β (ds.drop (k + 1)) := by
 rw [List.drop_eq_getElem_cons hk, Yu]
theorem yM.nil (β : Nat) : yM β [] := ⟨zA.nil β, by simp⟩
theorem yM.last {β : Nat} {ds : List Nat} (h : yM β ds) (hne : ds ≠ []) : ds[ds.length - 1]'(by have := List.length_pos_iff.2 hne; omega) ≠ 0 := by
 intro h0
 apply h.2
 rw [List.getLast?_eq_getElem?, List.getElem?_eq_getElem (by have := List.length_pos_iff.2 hne; omega), h0]
theorem yM.mk_ {β : Nat} {ds : List Nat} (h : zA β ds) (hl : ∀ hne : 0 < ds.length, ds[ds.length - 1] ≠ 0) : yM β ds := by
 refine ⟨h, ?_⟩
 intro h0
 rw [List.getLast?_eq_getElem?] at h0
 obtain ⟨hlt, e⟩ := List.getElem?_eq_some_iff.1 h0
 exact hl (by omega) e
theorem yM.ge {β : Nat} {ds : List Nat} (h : yM β ds) (hne : ds ≠ []) : β ^ (ds.length - 1) <= val β ds := by
 have hp := List.length_pos_iff.2 hne
 have hl := h.last hne
 have e : val β ds = val β (ds.take (ds.length - 1)) + β ^ (ds.length - 1) * ds[ds.length - 1] := by
  rw [<- yC β ds (ds.length - 1) (by omega), show ds.length - 1 + 1 = ds.length by omega, List.take_length]
 rw [e]
 have : β ^ (ds.length - 1) * 1 <= β ^ (ds.length - 1) * ds[ds.length - 1] := Nat.mul_le_mul_left _ (by omega)
 omega
theorem yM.zero_iff {β : Nat} {ds : List Nat} (hβ : 0 < β) (h : yM β ds) : val β ds = 0 ↔ ds = [] := by
 constructor
 . intro h0
   by_cases hne : ds = []
   . exact hne
   . have := h.ge hne
     have := Nat.pow_pos (n := ds.length - 1) hβ
     omega
 . rintro rfl; rfl
theorem yM.lt_of_length {β : Nat} {a b : List Nat} (hβ : 0 < β) (ha : zA β a) (hb : yM β b) (h : a.length < b.length) : val β a < val β b := by
 have h1 := YB ha
 have h2 := hb.ge (by intro e; subst e; simp at h)
 have h3 : β ^ a.length <= β ^ (b.length - 1) := Nat.pow_le_pow_right hβ (by omega)
 omega
theorem yM.length_le {β : Nat} {a b : List Nat} (hβ : 0 < β) (ha : yM β a) (hb : yM β b) (h : val β a <= val β b) : a.length <= b.length := by
 rcases Nat.lt_or_ge b.length a.length with h1 | h1
 . have := yM.lt_of_length hβ hb.1 ha h1; omega
 . exact h1
theorem yM.length_lt_pow {β : Nat} {a : List Nat} {k : Nat} (hβ : 1 < β) (ha : yM β a) (h : val β a < β ^ k) : a.length <= k := by
 rcases Nat.lt_or_ge k a.length with h1 | h1
 . have h2 := ha.ge (by intro e; subst e; simp at h1)
   have h3 : β ^ k <= β ^ (a.length - 1) := Nat.pow_le_pow_right (by omega) (by omega)
   omega
 . exact h1
theorem zt3 {β : Nat} {a b : List Nat} (hl : a.length = b.length) (ha : zA β a) (hb : zA β b) (h : val β a = val β b) : a = b := by
 induction a generalizing b with
 | nil => exact (List.eq_nil_of_length_eq_zero hl.symm).symm
 | cons d a ih =>
   cases b with
   | nil => simp at hl
   | cons c b =>
     rw [Yu, Yu] at h; have h1 := ha.head; have h2 := hb.head
     have e1 : d = c := by
      have q1 : (d + β * val β a) % β = d := by rw [Nat.add_mul_mod_self_left, Nat.mod_eq_of_lt h1]
      have q2 : (c + β * val β b) % β = c := by rw [Nat.add_mul_mod_self_left, Nat.mod_eq_of_lt h2]
      rw [<- q1, <- q2, h]
     subst e1
     have e2 : val β a = val β b := by
      have : β * val β a = β * val β b := by omega
      exact Nat.eq_of_mul_eq_mul_left (by omega) this
     rw [ih (by simpa using hl) ha.tail hb.tail e2]
theorem yM.inj {β : Nat} {a b : List Nat} (hβ : 0 < β) (ha : yM β a) (hb : yM β b) (h : val β a = val β b) : a = b :=
 zt3 (Nat.le_antisymm (ha.length_le hβ hb (by omega)) (hb.length_le hβ ha (by omega))) ha.1 hb.1 h
theorem VQ {β : Nat} {a b : List Nat} (hl : a.length = b.length) (ha : zA β a) (k : Nat) (hk : k < a.length)
 (hsame : ∀ j (h1 : j < a.length) (h2 : j < b.length), k < j -> a[j] = b[j]) (hlt : a[k] < b[k]'(by omega)) : val β a < val β b := by
 have e1 := xn β a k (by omega)
 have e2 := xn β b k (by omega)
 rw [ZM β a k hk] at e1
 rw [ZM β b k (by omega)] at e2
 have e3 : a.drop (k + 1) = b.drop (k + 1) := by
  apply List.ext_getElem (by simp [hl])
  intro i h1 h2
  rw [List.getElem_drop, List.getElem_drop]
  exact hsame _ _ _ (by omega)
 rw [e3] at e1
 have h1 : val β (a.take k) < β ^ k := by
  have := YB (ha.take k)
  rwa [List.length_take, Nat.min_eq_left (by omega)] at this
 have h2 : β ^ k * (a[k] + β * val β (b.drop (k + 1)) + 1) <= β ^ k * (b[k]'(by omega) + β * val β (b.drop (k + 1))) := Nat.mul_le_mul_left _ (by omega)
 rw [Nat.mul_add _ _ 1, Nat.mul_one] at h2
 omega
def digs (β : Nat) (n : Nat) : List Nat := if _h : β <= 1 \/ n = 0 then [] else (n % β) :: digs β (n / β)
termination_by n
decreasing_by exact Nat.div_lt_self (by omega) (by omega)
theorem Zj (β : Nat) : digs β 0 = [] := by rw [digs]; simp
theorem Z2 {β n : Nat} (hβ : 1 < β) (hn : 0 < n) : digs β n = (n % β) :: digs β (n / β) := by rw [digs]; rw [dif_neg (by omega)]
theorem Yg {β : Nat} (hβ : 1 < β) (n : Nat) : yM β (digs β n) /\ val β (digs β n) = n := by
 induction n using Nat.strongRecOn with
 | _ n ih =>
   by_cases hn : n = 0
   . subst hn; rw [Zj]; exact ⟨yM.nil β, rfl⟩
   . rw [Z2 hβ (by omega)]
     obtain ⟨h1, h2⟩ := ih (n / β) (Nat.div_lt_self (by omega) hβ); refine ⟨⟨zA.cons (Nat.mod_lt _ (by omega)) h1.1, ?_⟩, ?_⟩
     . by_cases hd : digs β (n / β) = []
       . rw [hd] at h2 |-
         have h3 : n / β = 0 := h2.symm
         have h4 : n < β := by
          rcases Nat.lt_or_ge n β with h | h
          . exact h
          . have := Nat.div_pos h (by omega); omega
         rw [Nat.mod_eq_of_lt h4]
         simpa using hn
       . rw [List.getLast?_cons_of_ne_nil hd]
         exact h1.2
     . rw [Yu, h2, Nat.mod_add_div]
theorem yM.digs {β : Nat} {ds : List Nat} (hβ : 1 < β) (h : yM β ds) : digs β (val β ds) = ds :=
 yM.inj (by omega) (Yg hβ _).1 h (Yg hβ _).2
def len (β n : Nat) : Nat := (digs β n).length
theorem yM.length_eq {β : Nat} {ds : List Nat} (hβ : 1 < β) (h : yM β ds) : ds.length = len β (val β ds) := by rw [len, h.digs hβ]
theorem xE {β : Nat} (hβ : 1 < β) (n : Nat) : n < β ^ len β n := by
 have h := Yg hβ n
 have := YB h.1.1
 rwa [h.2] at this
theorem zW {β n k : Nat} (hβ : 1 < β) (h : n < β ^ k) : len β n <= k := by
 have hs := Yg hβ n
 exact hs.1.length_lt_pow hβ (by rw [hs.2]; exact h)
theorem vi {β m n : Nat} (hβ : 1 < β) (h : m <= n) : len β m <= len β n := zW hβ (Nat.lt_of_le_of_lt h (xE hβ n))
theorem Vl {β : Nat} (hβ : 1 < β) (m n : Nat) : len β (m * n) <= len β m + len β n := by
 apply zW hβ
 rw [Nat.pow_add]
 exact Nat.mul_lt_mul'' (xE hβ m) (xE hβ n)
theorem zpt {β : Nat} (hβ : 1 < β) (m n : Nat) : len β (m + n) <= max (len β m) (len β n) + 1 := by
 apply zW hβ
 rw [Nat.pow_succ]
 have h1 := xE hβ m
 have h2 := xE hβ n
 have h3 : β ^ len β m <= β ^ max (len β m) (len β n) := Nat.pow_le_pow_right (by omega) (by omega)
 have h4 : β ^ len β n <= β ^ max (len β m) (len β n) := Nat.pow_le_pow_right (by omega) (by omega)
 have h5 : β ^ max (len β m) (len β n) * 2 <= β ^ max (len β m) (len β n) * β := Nat.mul_le_mul_left _ hβ
 omega
theorem V0 (β : Nat) : len β 0 = 0 := by rw [len, Zj]; rfl
theorem zah {β n : Nat} (hβ : 1 < β) (h : 0 < n) : 0 < len β n := by rw [len, Z2 hβ h]; simp
theorem zmm {β v1 v2 u2 top d r p ul vl u v : Nat} (ht : top = d * v1 + r) (hu : u = (top * β + u2) * p + ul) (hv : v = (v1 * β + v2) * p + vl) (hul : ul < p) (hlt : u < β * v)
 (h : β <= d \/ r * β + u2 < d * v2) : u / v < d := by
 have hvp : 0 < v := by
  rcases Nat.eq_zero_or_pos v with e | e
  . rw [e] at hlt; simp at hlt
  . exact e
 rcases h with h | h
 . have := (Nat.div_lt_iff_lt_mul hvp).2 hlt
   omega
 . rw [Nat.div_lt_iff_lt_mul hvp]
   have h1 : top * β + u2 + 1 <= d * (v1 * β + v2) := by
    rw [ht, Nat.add_mul, Nat.mul_add, Nat.mul_assoc]; omega
   have h2 : (top * β + u2 + 1) * p <= d * (v1 * β + v2) * p := Nat.mul_le_mul_right _ h1; rw [Nat.add_mul _ 1 p, Nat.one_mul] at h2; have h3 : d * v = d * (v1 * β + v2) * p + d * vl := by rw [hv, Nat.mul_add, Nat.mul_assoc]
   rw [h3, hu]
   omega
theorem zqw {β v1 v2 u2 top d r p ul vl u v : Nat} (ht : top = d * v1 + r) (hu : u = (top * β + u2) * p + ul) (hv : v = (v1 * β + v2) * p + vl) (hvl : vl < p) (hlt : u < β * v)
 (hv1 : 1 <= v1) (h : d * v2 <= r * β + u2) : d <= u / v + 1 := by
 have hvp : 0 < v := by
  rcases Nat.eq_zero_or_pos v with e | e
  . rw [e] at hlt; simp at hlt
  . exact e
 have hq : u / v < β := (Nat.div_lt_iff_lt_mul hvp).2 hlt
 rcases Nat.lt_or_ge (u / v + 1) d with hd | hd
 . exfalso
   have h1 : d * (v1 * β + v2) <= top * β + u2 := by
    rw [ht, Nat.add_mul, Nat.mul_add, Nat.mul_assoc]; omega
   have h2 : d * (v1 * β + v2) * p <= (top * β + u2) * p := Nat.mul_le_mul_right _ h1
   have h3 : u < (u / v + 1) * v := by
    have := Nat.div_add_mod u v; have := Nat.mod_lt u hvp; rw [Nat.add_mul, Nat.one_mul, Nat.mul_comm]
    omega
   have h4 : (u / v + 1) * v <= (u / v + 1) * ((v1 * β + v2 + 1) * p) := by
    apply Nat.mul_le_mul_left
    rw [hv, Nat.add_mul _ 1 p, Nat.one_mul]; omega
   have h5 : d * (v1 * β + v2) * p < (u / v + 1) * (v1 * β + v2 + 1) * p := by
    rw [Nat.mul_assoc (u / v + 1)]; omega
   have h6 : d * (v1 * β + v2) < (u / v + 1) * (v1 * β + v2 + 1) := Nat.lt_of_mul_lt_mul_right h5; have h7 : (u / v + 1 + 1) * (v1 * β + v2) <= d * (v1 * β + v2) := Nat.mul_le_mul_right _ (by omega); rw [Nat.add_mul (u / v + 1) 1, Nat.one_mul] at h7; rw [Nat.mul_add (u / v + 1) _ 1, Nat.mul_one] at h6; have h8 : 1 * β <= v1 * β := Nat.mul_le_mul_right _ hv1
   omega
 . exact hd
theorem zkh {β v1 um un d r : Nat} (hv1 : β <= 2 * v1) (hum : um <= v1) (hun : un < β) (hd : um * β + un = d * v1 + r) (hr : r < v1) : d <= β + 1 := by
 rcases Nat.lt_or_ge (β + 1) d with h | h
 . exfalso
   have h1 : (β + 2) * v1 <= d * v1 := Nat.mul_le_mul_right _ (by omega); have h2 : um * β <= v1 * β := Nat.mul_le_mul_right _ hum; rw [Nat.add_mul, Nat.mul_comm β v1] at h1
   omega
 . exact h
theorem zka {β v2 u2 d r : Nat} (hv2 : v2 < β) (hd : d <= β) (hr : β <= r) : d * v2 <= r * β + u2 := by
 have h1 : d * v2 <= β * v2 := Nat.mul_le_mul_right _ hd
 have h2 : β * v2 <= β * β := Nat.mul_le_mul_left _ (by omega)
 have h3 : β * β <= r * β := Nat.mul_le_mul_right _ hr
 omega
theorem zdy {u v d u' B : Nat} (hd1 : u / v <= d) (hd2 : d <= u / v + 1) (hv : 0 < v) (h : u' + d * v = u + 0 * B) : d = u / v /\ u' = u % v := by
 have h1 := Nat.div_add_mod u v
 have h2 := Nat.mod_lt u hv
 rw [Nat.zero_mul, Nat.add_zero] at h
 have e : d = u / v := by
  rcases Nat.lt_or_ge (u / v) d with h3 | h3
  . have e : d = u / v + 1 := by omega
    rw [e, Nat.add_mul, Nat.one_mul, Nat.mul_comm] at h
    omega
  . omega
 refine ⟨e, ?_⟩
 rw [e, Nat.mul_comm] at h
 omega
theorem zib {u v d u' B : Nat} (hd1 : u / v <= d) (hd2 : d <= u / v + 1) (hv : 0 < v) (hB : u' < B) (h : u' + d * v = u + 1 * B) : d = u / v + 1 /\ u' + v = u % v + B := by
 have h1 := Nat.div_add_mod u v
 have h2 := Nat.mod_lt u hv
 rw [Nat.one_mul] at h
 have e : d = u / v + 1 := by
  rcases Nat.lt_or_ge (u / v) d with h3 | h3
  . omega
  . have e : d = u / v := by omega
    rw [e, Nat.mul_comm] at h
    omega
 refine ⟨e, ?_⟩
 rw [e, Nat.add_mul, Nat.one_mul, Nat.mul_comm] at h
 omega
theorem zss {β lo un cy bo d x y s bo' P : Nat} (hβ : 0 < β) (hs : s + y + bo = x + bo' * β) (hy : y = (cy + d * un) % β) {L O : Nat} (hL : L + d * lo = O + (cy + bo) * P) :
 (L + P * s) + d * (lo + P * un) = (O + P * x) + ((cy + d * un) / β + bo') * (P * β) := by
 have h1 := Nat.div_add_mod (cy + d * un) β
 rw [<- hy] at h1
 have h2 : P * (s + y + bo) = P * (x + bo' * β) := by rw [hs]
 have h3 : P * (cy + d * un) = P * (β * ((cy + d * un) / β) + y) := by rw [h1]
 generalize (cy + d * un) / β = q at *
 simp only [Nat.mul_add, Nat.add_mul, Nat.mul_assoc, Nat.mul_comm, Nat.mul_left_comm] at h2 h3 hL |-
 omega
theorem zjq {β v1 v2 u2 top p ul vl u v : Nat} (hu : u = (top * β + u2) * p + ul) (hv : v = (v1 * β + v2) * p + vl) (hu2 : u2 < β) (hul : ul < p) (hv1 : 0 < v1) : u / v <= top / v1 := by
 rw [Nat.le_div_iff_mul_le hv1]
 have h1 : u < (top + 1) * (β * p) := by
  have h2 : (top * β + u2 + 1) * p <= (top + 1) * β * p := Nat.mul_le_mul_right _ (by rw [Nat.add_mul, Nat.one_mul]; omega)
  rw [Nat.add_mul _ 1, Nat.one_mul] at h2
  rw [hu, <- Nat.mul_assoc]; omega
 have h3 : u / v * v <= u := Nat.div_mul_le_self u v
 have h4 : u / v * (v1 * (β * p)) <= u / v * v := by
  apply Nat.mul_le_mul_left
  rw [hv, Nat.add_mul, Nat.mul_assoc]; omega
 have h5 : u / v * v1 * (β * p) < (top + 1) * (β * p) := by rw [Nat.mul_assoc]; omega
 have := Nat.lt_of_mul_lt_mul_right h5
 omega
theorem zsj {β v1 v2 um un u2 p ul vl u v : Nat} (hu : u = ((um * β + un) * β + u2) * p + ul) (hv : v = (v1 * β + v2) * p + vl) (hv2 : v2 < β) (hvl : vl < p) (hlt : u < β * v) : um <= v1 := by
 rcases Nat.lt_or_ge v1 um with h | h
 . exfalso
   have h1 : v < (v1 + 1) * (β * p) := by
    have h2 : (v1 * β + v2 + 1) * p <= (v1 + 1) * β * p := Nat.mul_le_mul_right _ (by rw [Nat.add_mul, Nat.one_mul]; omega); rw [Nat.add_mul _ 1, Nat.one_mul] at h2; rw [hv, <- Nat.mul_assoc]; omega
   have h3 : (v1 + 1) * (β * p) <= um * (β * p) := Nat.mul_le_mul_right _ h; have h4 : β * v <= β * (um * (β * p)) := Nat.mul_le_mul_left _ (by omega)
   have h5 : β * (um * (β * p)) <= u := by
    have e : β * (um * (β * p)) = um * β * β * p := by simp only [Nat.mul_assoc, Nat.mul_comm, Nat.mul_left_comm]
    have h6 : um * β * β * p <= ((um * β + un) * β + u2) * p := Nat.mul_le_mul_right _ (by rw [Nat.add_mul]; omega); rw [e, hu]; omega
   omega
 . exact h
theorem zu {ds : List Nat} {k : Nat} (hk : k < ds.length) : ds.getD k 0 = ds[k] := by
 rw [List.getD_eq_getElem?_getD, List.getElem?_eq_getElem hk]; rfl
theorem yW {ds : List Nat} {k : Nat} (hk : ds.length <= k) : ds.getD k 0 = 0 := by
 rw [List.getD_eq_getElem?_getD, List.getElem?_eq_none hk]; rfl
theorem zC (β : Nat) (ds : List Nat) (k : Nat) : val β (ds.take (k + 1)) = val β (ds.take k) + β ^ k * ds.getD k 0 := by
 rcases Nat.lt_or_ge k ds.length with h | h
 . rw [zu h, yC β ds k h]
 . rw [yW h, List.take_of_length_le (by omega), List.take_of_length_le h]; simp
theorem zkp (β : Nat) (ds : List Nat) (k d : Nat) (hk : k < ds.length) : val β (ds.set k d) + β ^ k * ds[k] = val β ds + β ^ k * d := by
 have e1 := xn β ds k (by omega)
 have e2 := xn β (ds.set k d) k (by simp; omega)
 rw [ZM β ds k hk] at e1
 rw [ZM β (ds.set k d) k (by simpa using hk)] at e2
 have e3 : (ds.set k d).take k = ds.take k := by rw [List.take_set_of_le (by omega)]
 have e4 : (ds.set k d).drop (k + 1) = ds.drop (k + 1) := by rw [List.drop_set_of_lt (by omega)]
 rw [e3, e4] at e2
 simp only [List.getElem_set_self] at e2
 rw [e1, e2, Nat.mul_add, Nat.mul_add]; omega
theorem zfz {β i D A B c x y : Nat} (h : D + c * β ^ i = A + B) : (D + β ^ i * ((c + x + y) % β)) + (c + x + y) / β * β ^ (i + 1) = (A + β ^ i * x) + (B + β ^ i * y) := by
 have h1 := Nat.div_add_mod (c + x + y) β
 have h2 : β ^ i * (c + x + y) = β ^ i * (β * ((c + x + y) / β) + (c + x + y) % β) := by rw [h1]
 generalize (c + x + y) / β = q at *
 generalize (c + x + y) % β = r at *
 rw [Nat.pow_succ]
 simp only [Nat.mul_add, Nat.add_mul, Nat.mul_assoc, Nat.mul_comm, Nat.mul_left_comm] at h2 h |-
 omega
theorem zpi {β i D A B b x y s b' : Nat} (h : D + B = A + b * β ^ i) (hs : s + y + b = x + b' * β) : (D + β ^ i * s) + (B + β ^ i * y) = (A + β ^ i * x) + b' * β ^ (i + 1) := by
 have h2 : β ^ i * (s + y + b) = β ^ i * (x + b' * β) := by rw [hs]
 rw [Nat.pow_succ]
 simp only [Nat.mul_add, Nat.add_mul, Nat.mul_assoc, Nat.mul_comm, Nat.mul_left_comm] at h2 h |-
 omega
theorem zlu {β P k O O' c x y o Y Z : Nat} (h : O + c * (P * β ^ k) = Z + x * P * Y) (hs : O' + P * β ^ k * o = O + P * β ^ k * ((c + x * y + o) % β)) :
 O' + (c + x * y + o) / β * (P * β ^ (k + 1)) = Z + x * P * (Y + β ^ k * y) := by
 have h1 := Nat.div_add_mod (c + x * y + o) β
 have h2 : P * β ^ k * (c + x * y + o) = P * β ^ k * (β * ((c + x * y + o) / β) + (c + x * y + o) % β) := by rw [h1]
 generalize (c + x * y + o) / β = q at *
 generalize (c + x * y + o) % β = r at *
 rw [Nat.pow_succ]
 simp only [Nat.mul_add, Nat.add_mul, Nat.mul_assoc, Nat.mul_comm, Nat.mul_left_comm] at h2 h hs |-
 omega
theorem zhz {β c x y o : Nat} (hc : c < β) (hx : x < β) (hy : y < β) (ho : o < β) : c + x * y + o < β * β := by
 have h1 : x * y <= (β - 1) * (β - 1) := Nat.mul_le_mul (by omega) (by omega)
 obtain ⟨g, rfl⟩ : ∃ g, β = g + 1 := ⟨β - 1, by omega⟩
 simp only [Nat.add_sub_cancel] at h1
 rw [Nat.add_mul, Nat.mul_add]
 omega
theorem zmk {β d x r : Nat} (hd : 0 < d) (hr : r < d) (hx : x < β) : (r * β + x) / d < β /\ (r * β + x) % d < d := by
 refine ⟨(Nat.div_lt_iff_lt_mul hd).2 ?_, Nat.mod_lt _ hd⟩
 have : (r + 1) * β <= d * β := Nat.mul_le_mul_right _ (by omega)
 rw [Nat.add_mul, Nat.one_mul] at this
 rw [Nat.mul_comm β d]
 omega
theorem zuv {β d x r Q A : Nat} (h : A = Q * d + r) : x + β * A = ((r * β + x) / d + β * Q) * d + (r * β + x) % d := by
 have h1 := Nat.div_add_mod (r * β + x) d
 have h2 : (r * β + x) / d * d + (r * β + x) % d = r * β + x := by rw [Nat.mul_comm]; exact h1
 rw [h, Nat.add_mul]
 simp only [Nat.mul_add, Nat.add_mul, Nat.mul_assoc, Nat.mul_comm, Nat.mul_left_comm] at h2 |-
 omega
theorem XD (β : Nat) (ds : List Nat) (k d : Nat) (hk : k < ds.length) : val β ((ds.set k d).drop k) = d + β * val β (ds.drop (k + 1)) := by
 rw [ZM β (ds.set k d) k (by simpa using hk), List.drop_set_of_lt (by omega)]
 simp only [List.getElem_set_self]
theorem zuh {β s i D A x : Nat} {o : Nat} (h : D + β ^ i * o = A * s) : (D + β ^ i * (o + x * s % β)) + β ^ (i + 1) * (x * s / β) = (A + β ^ i * x) * s := by
 have h1 := Nat.div_add_mod (x * s) β
 have h2 : β ^ i * (x * s) = β ^ i * (β * (x * s / β) + x * s % β) := by rw [h1]
 generalize x * s / β = q at *
 generalize x * s % β = r at *
 rw [Nat.pow_succ, Nat.add_mul]
 simp only [Nat.mul_add, Nat.add_mul, Nat.mul_assoc, Nat.mul_comm, Nat.mul_left_comm] at h2 h |-
 omega
theorem zh1 {n a b : Nat} (hb : b < 2 ^ n) : (2 ^ n * a) ||| b = 2 ^ n * a + b := (Nat.two_pow_add_eq_or_of_lt hb a).symm
theorem zao {n a b : Nat} (hb : b < 2 ^ n) : b ||| (2 ^ n * a) = b + 2 ^ n * a := by rw [Nat.or_comm, zh1 hb, Nat.add_comm]
theorem zkb {s t x : Nat} (hs : 0 < s) : x * s % (s * t) = s * (x % t) := by rw [Nat.mul_comm x s, Nat.mul_mod_mul_left]
theorem zo4 {s t i A x : Nat} (hs : 0 < s) (ht : 0 < t) : (A + (s * t) ^ (i + 1) * x) / s = A / s + (s * t) ^ i * (t * x) := by
 have e : (s * t) ^ (i + 1) * x = s * ((s * t) ^ i * (t * x)) := by
  rw [Nat.pow_succ]; simp only [Nat.mul_assoc, Nat.mul_comm, Nat.mul_left_comm]
 rw [e, Nat.add_mul_div_left _ _ hs]
theorem zmw {s t x : Nat} (ht : 0 < t) : t * x = t * (x % s) + s * t * (x / s) := by
 conv => lhs; rw [<- Nat.mod_add_div x s]
 rw [Nat.mul_add]
 simp only [Nat.mul_assoc, Nat.mul_comm, Nat.mul_left_comm]
def chr (d : Nat) : UInt8 := UInt8.ofNat (48 + d)
def dig (c : UInt8) : Nat := c.toNat - 48
def yT (c : UInt8) : Bool := decide (48 <= c.toNat) && decide (c.toNat <= 57)
def yZ (l : List UInt8) : Bool := l.all yT && !l.isEmpty
def z9 (l : List UInt8) : Nat := l.foldl (fun n c => 10 * n + dig c) 0
def dec (n : Nat) : List UInt8 := if n = 0 then [48] else (digs 10 n).reverse.map chr
theorem zuy {d : Nat} (h : d < 10) : dig (chr d) = d := by
 unfold dig chr
 rw [UInt8.toNat_ofNat']
 have : (48 + d) % 2 ^ 8 = 48 + d := Nat.mod_eq_of_lt (by omega)
 omega
theorem zo8 {d : Nat} (h : d < 10) : yT (chr d) = true := by
 unfold yT chr
 rw [UInt8.toNat_ofNat']
 have : (48 + d) % 2 ^ 8 = 48 + d := Nat.mod_eq_of_lt (by omega)
 simp [this]; omega
theorem zgn {c : UInt8} (h : yT c = true) : chr (dig c) = c := by
 simp [yT] at h
 unfold chr dig
 apply UInt8.toNat_inj.1
 rw [UInt8.toNat_ofNat']
 have : c.toNat < 2 ^ 8 := UInt8.toNat_lt c
 have : (48 + (c.toNat - 48)) % 2 ^ 8 = 48 + (c.toNat - 48) := Nat.mod_eq_of_lt (by omega)
 omega
theorem ztj {c : UInt8} (h : yT c = true) : dig c < 10 := by
 simp [yT] at h; unfold dig; omega
theorem zg2 {d : Nat} (h : d < 10) : (chr d).toNat = 48 + d := by
 unfold chr; rw [UInt8.toNat_ofNat']; exact Nat.mod_eq_of_lt (by omega)
theorem zfa : z9 [] = 0 := rfl
theorem zbg (l : List UInt8) : ∀ n : Nat, l.foldl (fun n c => 10 * n + dig c) n = n * 10 ^ l.length + z9 l := by
 induction l with
 | nil => intro n; simp [z9]
 | cons c l ih =>
   intro n
   have e : z9 (c :: l) = (10 * 0 + dig c) * 10 ^ l.length + z9 l := by
    show List.foldl (fun n c => 10 * n + dig c) (10 * 0 + dig c) l = _
    exact ih _
   rw [List.foldl_cons, ih, e, List.length_cons, Nat.pow_succ]; simp only [Nat.mul_add, Nat.add_mul, Nat.mul_assoc, Nat.mul_comm, Nat.mul_left_comm, Nat.mul_zero, Nat.zero_add]
   omega
theorem Xj (a b : List UInt8) : z9 (a ++ b) = z9 a * 10 ^ b.length + z9 b := by
 rw [z9, List.foldl_append, zbg b]; rfl
theorem zji (a : List UInt8) (c : UInt8) : z9 (a ++ [c]) = 10 * z9 a + dig c := by
 rw [Xj]; simp [z9]; omega
theorem zdi (c : UInt8) (l : List UInt8) : z9 (c :: l) = dig c * 10 ^ l.length + z9 l := by
 rw [z9, List.foldl_cons, zbg]; simp
theorem YX (l : List UInt8) : z9 l = val 10 (l.reverse.map dig) := by
 induction l with
 | nil => rfl
 | cons c l ih => rw [zdi, List.reverse_cons, List.map_append, ZT, ih]; simp [val]; rw [Nat.mul_comm]; omega
theorem XE {l : List UInt8} (h : l.all yT = true) : z9 l < 10 ^ l.length := by
 rw [YX]
 have hs : zA 10 (l.reverse.map dig) := by
  intro d hd
  simp at hd
  obtain ⟨c, hc, rfl⟩ := hd
  exact ztj (List.all_eq_true.1 h c hc)
 simpa using YB hs
theorem zev (n : Nat) : zA 10 (digs 10 n) := (Yg (by omega) n).1.1
theorem zco (n : Nat) : (dec n).all yT = true := by
 unfold dec
 split
 . rfl
 . rw [List.all_eq_true]
   intro c hc; simp only [List.mem_map, List.mem_reverse] at hc; obtain ⟨d, hd, rfl⟩ := hc; exact zo8 (zev n d hd)
theorem zv7 (n : Nat) : dec n ≠ [] := by
 unfold dec
 split
 . simp
 . rename_i h
   rw [Z2 (by omega) (by omega)]; simp
theorem XY (n : Nat) : yZ (dec n) = true := by
 unfold yZ; rw [zco]; simp [zv7]
theorem vY (n : Nat) : z9 (dec n) = n := by
 unfold dec
 split
 . rename_i h; subst h; decide
 . rw [YX, <- List.map_reverse, List.reverse_reverse, List.map_map]
   have e : (digs 10 n).map (dig ∘ chr) = digs 10 n := by
    have : ∀ l : List Nat, zA 10 l -> l.map (dig ∘ chr) = l := by
     intro l
     induction l with
     | nil => intro _; rfl
     | cons d l ih => intro h; rw [List.map_cons, ih h.tail]; simp [zuy h.head]
    exact this _ (zev n)
   rw [e]; exact (Yg (by omega) n).2
theorem zdq {m n : Nat} (h : dec m = dec n) : m = n := by rw [<- vY m, h, vY]
theorem xM : dec 0 = [48] := by simp [dec]
theorem zs9 (n : Nat) (hn : n ≠ 0) : ∀ c, (dec n).head? = some c -> c ≠ 48 := by
 intro c hc
 unfold dec at hc
 rw [if_neg hn, List.head?_map, List.head?_reverse] at hc
 have hs := Yg (β := 10) (by omega) n
 cases hl : (digs 10 n).getLast? with
 | none => rw [hl] at hc; cases hc
 | some d =>
   rw [hl] at hc; simp at hc; subst hc; have h1 : d < 10 := hs.1.1 d (List.mem_of_getLast? hl); have h2 : d ≠ 0 := fun e => hs.1.2 (by rw [hl, e])
   intro e; have := congrArg UInt8.toNat e; rw [zg2 h1] at this; simp at this
   omega
theorem znj {l : List UInt8} (h : yZ l = true) (h0 : l.head? ≠ some 48 \/ l.length = 1) : dec (z9 l) = l := by
 simp [yZ] at h
 obtain ⟨ha, hne⟩ := h
 have hs : zA 10 (l.reverse.map dig) := by
  intro d hd
  simp at hd
  obtain ⟨c, hc, rfl⟩ := hd
  exact ztj (ha c hc)
 have hm : ∀ l : List UInt8, (∀ c ∈ l, yT c = true) -> l.map (chr ∘ dig) = l := by
  intro l
  induction l with
  | nil => intro _; rfl
  | cons c l ih => intro h; rw [List.map_cons, ih (fun c hc => h c (List.mem_cons_of_mem _ hc))]; simp [zgn (h c List.mem_cons_self)]
 by_cases hz : z9 l = 0
 . unfold dec
   rw [if_pos hz]
   rcases h0 with h0 | h0
   . exfalso
     cases l with
     | nil => exact hne rfl
     | cons c l =>
       simp at h0; rw [zdi] at hz; have hc := ha c List.mem_cons_self
       have h1 : dig c = 0 := by
        rcases Nat.eq_zero_or_pos (dig c) with e | e
        . exact e
        . have := Nat.mul_pos e (Nat.pow_pos (n := l.length) (show 0 < 10 by omega)); omega
       have h2 := zgn hc; rw [h1] at h2; exact h0 h2.symm
   . match l, h0 with
     | [c], _ =>
       have h1 : dig c = 0 := by simpa [z9] using hz
       have h2 := zgn (ha c List.mem_cons_self); rw [h1] at h2; rw [<- h2]; rfl
 . have hc : yM 10 (l.reverse.map dig) := by
    refine ⟨hs, ?_⟩; rw [List.getLast?_map, List.getLast?_reverse]
    cases l with
    | nil => exact absurd rfl hne
    | cons c l =>
      simp only [List.head?_cons, Option.map_some]; intro e; injection e with e
      have h2 := zgn (ha c List.mem_cons_self); rw [e] at h2
      rcases h0 with h0 | h0
      . apply h0; rw [<- h2]; rfl
      . have : l = [] := List.eq_nil_of_length_eq_zero (by simpa using h0)
        subst this
        apply hz
        simp [z9, e]
   unfold dec; rw [if_neg hz, YX, hc.digs (by omega), <- List.map_reverse, List.reverse_reverse, List.map_map, hm l ha]
theorem zes (n : Nat) (hn : n ≠ 0) : (dec n).length = len 10 n := by unfold dec; rw [if_neg hn]; simp [len]
theorem YP {n k : Nat} (h : n < 10 ^ k) (hk : 0 < k) : (dec n).length <= k := by
 by_cases hn : n = 0
 . subst hn; rw [xM]; exact hk
 . rw [zes n hn]; exact zW (by omega) h
theorem ZE {n k : Nat} (h : (dec n).length <= k) : n < 10 ^ k := by
 have h1 := XE (zco n)
 rw [vY] at h1
 exact Nat.lt_of_lt_of_le h1 (Nat.pow_le_pow_right (by omega) h)
theorem YN {β n : Nat} (hβ : 10 <= β) : len β n <= (dec n).length := by
 apply zW (by omega)
 exact Nat.lt_of_lt_of_le (ZE (Nat.le_refl _)) (Nat.pow_le_pow_left hβ _)
theorem zqe {n m : Nat} {b : List Nat} (h : b ++ digs 10 m = digs 10 n) (hm : 0 < m) : (b ++ [m % 10]) ++ digs 10 (m / 10) = digs 10 n := by
 rw [<- h, Z2 (by omega) hm]; simp
def zav (β : Int) : List Int -> Int
 | [] => 0
 | d :: ds => d + β * zav β ds
theorem zcy (β : Int) (a b : List Int) : zav β (a ++ b) = zav β a + β ^ a.length * zav β b := by
 induction a with
 | nil => simp [zav]
 | cons d a ih => simp only [List.cons_append, zav, ih, List.length_cons, Int.pow_succ]; rw [Int.mul_add, Int.mul_comm (β ^ a.length) β, Int.mul_assoc]; omega
theorem zds (β : Nat) (ds : List Nat) : zav β (ds.map fun (d : Nat) => (d : Int)) = (val β ds : Int) := by
 induction ds with
 | nil => rfl
 | cons d ds ih => simp only [List.map_cons, zav, val, ih]; push_cast; rfl
theorem zl8 (β : Int) (zs : List Int) (k : Nat) (d : Int) (hk : k < zs.length) : zav β (zs.set k d) = zav β zs + β ^ k * (d - zs[k]) := by
 induction zs generalizing k with
 | nil => simp at hk
 | cons z zs ih =>
   cases k with
   | zero => simp [zav]; omega
   | succ k =>
     simp only [List.set_cons_succ, zav, List.getElem_cons_succ]; rw [ih k (by simpa using hk), Int.mul_add, Int.pow_succ, <- Int.mul_assoc, Int.mul_comm β (β ^ k)]
     omega
def ztm (lo hi : Int) (zs : List Int) : Prop := ∀ z ∈ zs, lo <= z /\ z < hi
theorem ztm.get {lo hi : Int} {zs : List Int} (h : ztm lo hi zs) {k : Nat} (hk : k < zs.length) : lo <= zs[k] /\ zs[k] < hi := h _ (List.getElem_mem hk)
theorem zu7 {β : Int} (hβ : 0 < β) {zs : List Int} (h : ztm 0 β zs) : 0 <= zav β zs /\ zav β zs < β ^ zs.length := by
 induction zs with
 | nil => simp [zav]
 | cons z zs ih =>
   obtain ⟨h1, h2⟩ := h z List.mem_cons_self; obtain ⟨h3, h4⟩ := ih (fun x hx => h x (List.mem_cons_of_mem _ hx)); simp only [zav, List.length_cons, Int.pow_succ]; have h5 := Int.mul_nonneg (Int.le_of_lt hβ) h3; have h6 : β * (zav β zs + 1) <= β * β ^ zs.length := Int.mul_le_mul_of_nonneg_left (by omega) (Int.le_of_lt hβ); rw [Int.mul_add, Int.mul_one] at h6; rw [Int.mul_comm (β ^ zs.length)]
   omega
theorem zrm {β : Nat} {zs : List Int} (h : ztm 0 β zs) : ∃ ds : List Nat, zs = (ds.map fun (d : Nat) => (d : Int)) /\ zA β ds /\ ds.length = zs.length := by
 refine ⟨zs.map Int.toNat, ?_, ?_, by simp⟩
 . rw [List.map_map]
   conv => lhs; rw [<- List.map_id zs]
   apply List.map_congr_left
   intro z hz; have := (h z hz).1
   simp; omega
 . intro d hd
   obtain ⟨z, hz, rfl⟩ := List.mem_map.1 hd; have := h z hz
   omega
def vk (da db : List Nat) (k : Nat) : List Int := (List.range da.length).map fun j => if j < k then (da.getD j 0 : Int) - db.getD j 0 else da.getD j 0
theorem xV (da db : List Nat) (k : Nat) : (vk da db k).length = da.length := by simp [vk]
theorem Ya (da db : List Nat) (k j : Nat) (hj : j < da.length) : (vk da db k)[j]'(by rw [xV]; exact hj) = if j < k then (da.getD j 0 : Int) - db.getD j 0 else da.getD j 0 := by simp [vk]
theorem zia (da db : List Nat) : vk da db 0 = da.map fun (d : Nat) => (d : Int) := by
 apply List.ext_getElem
 . simp [vk]
 . intro j h1 h2
   rw [Ya _ _ _ _ (by simpa using h2)]; simp at h2
   simp [h2]
theorem zjo (da db : List Nat) (k : Nat) (hk : k < da.length) : (vk da db k).set k ((da.getD k 0 : Int) - db.getD k 0) = vk da db (k + 1) := by
 apply List.ext_getElem
 . simp [vk]
 . intro j h1 h2
   rw [xV] at h2; rw [Ya _ _ _ _ h2, List.getElem_set]
   by_cases h : k = j
   . subst h; simp
   . rw [if_neg h, Ya _ _ _ _ h2]
     by_cases h3 : j < k
     . rw [if_pos h3, if_pos (by omega)]
     . rw [if_neg h3, if_neg (by omega)]
theorem zie (β : Int) (f g : Nat -> Int) : ∀ l : List Nat, zav β (l.map fun j => f j - g j) = zav β (l.map f) - zav β (l.map g) := by
 intro l
 induction l with
 | nil => rfl
 | cons x l ih => simp only [List.map_cons, zav, ih]; rw [Int.mul_sub]; omega
theorem znc (da : List Nat) : ((List.range da.length).map fun j => ((da.getD j 0 : Nat) : Int)) = da.map fun (d : Nat) => (d : Int) := by
 apply List.ext_getElem
 . simp
 . intro j h1 h2
   simp at h1
   simp [h1]
theorem zmz (β : Int) : ∀ n, zav β (List.replicate n 0) = 0 := by
 intro n
 induction n with
 | zero => rfl
 | succ n ih => rw [List.replicate_succ, zav, ih]; simp
theorem znd (β : Nat) (db : List Nat) (n : Nat) (h : db.length <= n) : zav β ((List.range n).map fun j => ((db.getD j 0 : Nat) : Int)) = val β db := by
 obtain ⟨m, rfl⟩ : ∃ m, n = db.length + m := ⟨n - db.length, by omega⟩
 have e : ((List.range (db.length + m)).map fun j => ((db.getD j 0 : Nat) : Int)) = (db.map fun (d : Nat) => (d : Int)) ++ List.replicate m 0 := by
  apply List.ext_getElem
  . simp
  . intro j h1 h2
    simp at h1; rw [List.getElem_append]
    by_cases hj : j < db.length
    . simp [hj]
    . simp [hj]
 rw [e, zcy, zmz, zds]; simp
theorem zha (β : Nat) (da db : List Nat) (h : db.length <= da.length) : zav β (vk da db db.length) = (val β da : Int) - val β db := by
 have e : vk da db db.length = (List.range da.length).map fun j => ((da.getD j 0 : Nat) : Int) - ((db.getD j 0 : Nat) : Int) := by
  unfold vk
  apply List.map_congr_left
  intro j _
  by_cases hj : j < db.length
  . rw [if_pos hj]
  . rw [if_neg hj, yW (ds := db) (by omega)]; simp
 rw [e, zie, znc, zds, znd _ _ _ h]
theorem zh2 {β : Nat} {da db : List Nat} (hβ : 0 < β) (ha : zA β da) (hb : zA β db) (k : Nat) : ztm (-(β : Int)) β (vk da db k) := by
 intro z hz
 obtain ⟨j, hj, rfl⟩ := List.mem_map.1 hz
 have h1 := ha.getD hβ j
 have h2 := hb.getD hβ j
 split <;> omega
def Yw (β : Int) (zs : List Int) (k : Nat) (V : Int) : Prop :=
 zav β zs = V /\ ztm 0 β (zs.take k) /\ (∀ h : k < zs.length, -β <= zs[k] /\ zs[k] < β) /\ ∀ j (h : j < zs.length), k < j -> -β < zs[j] /\ zs[j] < β
theorem Yw.start {β : Nat} {da db : List Nat} (hβ : 0 < β) (ha : zA β da) (hb : zA β db) (h : db.length <= da.length) : Yw β (vk da db db.length) 0 ((val β da : Int) - val β db) := by
 refine ⟨zha β da db h, by intro z hz; simp at hz, fun h0 => (zh2 hβ ha hb _).get h0, fun j hj _ => ?_⟩
 rw [xV] at hj
 rw [Ya _ _ _ _ hj]
 have h1 := ha.getD hβ j
 have h2 := hb.getD hβ j
 split <;> omega
theorem zhv {lo hi : Int} {zs : List Int} {k : Nat} (hk : k < zs.length) (h : ztm lo hi (zs.take k)) (h1 : lo <= zs[k]) (h2 : zs[k] < hi) : ztm lo hi (zs.take (k + 1)) := by
 intro z hz
 rw [XB _ _ hk] at hz
 rcases List.mem_append.1 hz with h3 | h3
 . exact h z h3
 . simp at h3; subst h3; exact ⟨h1, h2⟩
theorem Yw.keep {β : Int} {zs : List Int} {k : Nat} {V : Int} (h : Yw β zs k V) (hk : k < zs.length) (h0 : 0 <= zs[k]) : Yw β zs (k + 1) V := by
 obtain ⟨h1, h2, h3, h4⟩ := h
 refine ⟨h1, zhv hk h2 h0 (h3 hk).2, fun hk' => ?_, fun j hj hlt => h4 j hj (by omega)⟩
 have := h4 (k + 1) hk' (by omega)
 omega
theorem Yw.more {β : Int} (hβ : 0 < β) {zs : List Int} {k : Nat} {V : Int} (h : Yw β zs k V) (hV : 0 <= V) (hk : k < zs.length) (h0 : zs[k] < 0) : k + 1 < zs.length := by
 rcases Nat.lt_or_ge (k + 1) zs.length with h5 | h5
 . exact h5
 . exfalso
   obtain ⟨h1, h2, h3, h4⟩ := h; have e : zs = zs.take k ++ [zs[k]] := by rw [<- XB _ _ hk, List.take_of_length_le h5]
   have h6 := zcy β (zs.take k) [zs[k]]; rw [<- e, h1] at h6; simp only [zav, Int.mul_zero, Int.add_zero] at h6; have h7 := (zu7 hβ h2).2; have h8 : β ^ (zs.take k).length * zs[k] <= β ^ (zs.take k).length * (-1) := Int.mul_le_mul_of_nonneg_left (by omega) (Int.le_of_lt (Int.pow_pos hβ))
   omega
theorem Yw.back {β : Int} (hβ : 0 < β) {zs : List Int} {k : Nat} {V : Int} (h : Yw β zs k V) (hk : k + 1 < zs.length) (h0 : zs[k] < 0) :
 Yw β ((zs.set k (zs[k] + β)).set (k + 1) (zs[k + 1] - 1)) (k + 1) V := by
 obtain ⟨h1, h2, h3, h4⟩ := h
 have hb := h3 (by omega)
 have hb1 := h4 (k + 1) hk (by omega)
 refine ⟨?_, ?_, ?_, ?_⟩
 . rw [zl8 _ _ _ _ (by simpa using hk), zl8 _ _ _ _ (by omega), List.getElem_set_ne (by omega), h1, Int.pow_succ]
   have e1 : zs[k] + β - zs[k] = β := by omega
   have e2 : zs[k + 1] - 1 - zs[k + 1] = -1 := by omega
   rw [e1, e2]
   omega
 . rw [List.take_set_of_le (by omega)]
   apply zhv (by simpa using (by omega : k < zs.length))
   . rw [List.take_set_of_le (by omega)]; exact h2
   . rw [List.getElem_set_self]; omega
   . rw [List.getElem_set_self]; omega
 . intro h5
   rw [List.getElem_set_self]
   omega
 . intro j hj hlt
   simp at hj; rw [List.getElem_set_ne (by omega), List.getElem_set_ne (by omega)]; exact h4 j hj (by omega)
theorem Yw.done {β : Nat} {zs : List Int} {k : Nat} {V : Nat} (h : Yw β zs k (V : Int)) (hk : zs.length <= k) : ∃ ds : List Nat, zs = (ds.map fun (d : Nat) => (d : Int)) /\ zA β ds /\ ds.length = zs.length /\ val β ds = V := by
 obtain ⟨h1, h2, _, _⟩ := h
 rw [List.take_of_length_le hk] at h2
 obtain ⟨ds, rfl, hs, hl⟩ := zrm h2
 refine ⟨ds, rfl, hs, hl, ?_⟩
 rw [zds] at h1
 omega
def zi (q : Rat) : List UInt8 := (if q.num < 0 then [45] else []) ++ dec q.num.natAbs ++ (if q.den = 1 then [] else 47 :: dec q.den)
def zS (M : Nat) (q : Rat) : Prop := (dec q.num.natAbs).length <= M /\ (dec q.den).length <= M
instance (M : Nat) (q : Rat) : Decidable (zS M q) := inferInstanceAs (Decidable (_ /\ _))
def zhg (l : List UInt8) (q : Rat) : Prop := l = zi q /\ zS 50000 q
def yw (l : List UInt8) : Bool := l.head? == some 45
def zm (l : List UInt8) : List UInt8 := if yw l then l.tail else l
def yk (c : UInt8) (l : List UInt8) : List UInt8 := l.takeWhile (· != c)
def zX (c : UInt8) (l : List UInt8) : List UInt8 := (l.dropWhile (· != c)).tail
def has (c : UInt8) (l : List UInt8) : Bool := l.contains c
def xw (neg : Bool) (n d : Nat) : Rat := Rat.divInt (if neg then -(n : Int) else n) d
theorem YY {neg : Bool} {n d : Nat} (hc : Nat.Coprime n d) (hd : d ≠ 0) : (xw neg n d).num = (if neg then -(n : Int) else n) /\ (xw neg n d).den = d := by
 have hc' : Nat.Coprime (if neg then -(n : Int) else n).natAbs d := by cases neg <;> simpa using hc
 have e : xw neg n d = ⟨if neg then -(n : Int) else n, d, hd, hc'⟩ := by rw [Rat.mk_eq_divInt]; rfl
 rw [e]; exact ⟨rfl, rfl⟩
theorem Xu {l : List UInt8} (h : l.all yT = true) {c : UInt8} (hc : yT c = false) : ∀ x ∈ l, (x != c) = true := by
 intro x hx
 have h1 := List.all_eq_true.1 h x hx
 rw [bne_iff_ne]
 rintro rfl
 rw [h1] at hc; cases hc
theorem Vt : yT 47 = false := by decide
theorem zk4 : yT 45 = false := by decide
theorem VW {l t : List UInt8} {p : UInt8 -> Bool} (h : ∀ x ∈ l, p x = true) : (l ++ t).takeWhile p = l ++ t.takeWhile p := by
 induction l with
 | nil => rfl
 | cons c l ih => simp [List.takeWhile_cons, h c List.mem_cons_self, ih (fun x hx => h x (List.mem_cons_of_mem _ hx))]
theorem zgg {l t : List UInt8} {p : UInt8 -> Bool} (h : ∀ x ∈ l, p x = true) : (l ++ t).dropWhile p = t.dropWhile p := by
 induction l with
 | nil => rfl
 | cons c l ih => simp [List.dropWhile_cons, h c List.mem_cons_self, ih (fun x hx => h x (List.mem_cons_of_mem _ hx))]
theorem zo2 {c : UInt8} {l : List UInt8} (h : l.all yT = true) (hc : yT c = false) (t : List UInt8) : yk c (l ++ c :: t) = l := by
 unfold yk
 rw [VW (Xu h hc)]; simp [List.takeWhile_cons]
theorem zng {c : UInt8} {l : List UInt8} (h : l.all yT = true) (hc : yT c = false) (t : List UInt8) : zX c (l ++ c :: t) = t := by
 unfold zX
 rw [zgg (Xu h hc)]; simp [List.dropWhile_cons]
theorem zvf (c : UInt8) (l t : List UInt8) : has c (l ++ c :: t) = true := by unfold has; simp
theorem XJ {c : UInt8} {l : List UInt8} (h : has c l = false) : yk c l = l := by
 unfold has at h; unfold yk
 have h' : c ∉ l := by simpa using h
 have := VW (l := l) (t := []) (p := (· != c)) (by
  intro a ha
  rw [bne_iff_ne]
  rintro rfl
  exact h' ha)
 simpa using this
theorem zms {c : UInt8} {l : List UInt8} (h : l.all yT = true) (hc : yT c = false) : has c l = false := by
 unfold has
 rw [Bool.eq_false_iff]
 intro h1
 have h2 := List.contains_iff_mem.1 h1
 have := List.all_eq_true.1 h c h2
 rw [this] at hc; cases hc
theorem zts {c : UInt8} {l : List UInt8} (h : has c l = true) : l = yk c l ++ c :: zX c l := by
 unfold has at h; unfold yk zX
 have h1 : c ∈ l := List.contains_iff_mem.1 h
 have e : (l.dropWhile (· != c)).head? = some c := by
  cases hd : l.dropWhile (· != c) with
  | nil =>
    have h2 := List.takeWhile_append_dropWhile (p := (· != c)) (l := l); rw [hd, List.append_nil] at h2; rw [<- h2] at h1; have := List.all_eq_true.1 (List.all_takeWhile (p := (· != c)) (l := l)) c h1; simp at this
  | cons a t =>
    have := List.head?_dropWhile_not (· != c) l; rw [hd] at this; simp at this; rw [this]; rfl
 cases hd : l.dropWhile (· != c) with
 | nil => rw [hd] at e; cases e
 | cons a t =>
   rw [hd] at e; injection e with e
   subst e; have := List.takeWhile_append_dropWhile (p := (· != a)) (l := l); rw [hd] at this; exact this.symm
theorem ZA {l : List UInt8} (h : yw l = false) : zm l = l := by unfold zm; rw [h]; rfl
theorem X1 {l : List UInt8} (h : yw l = true) : l = 45 :: zm l := by
 unfold zm; rw [h]
 unfold yw at h
 cases l with
 | nil => simp at h
 | cons c l => simp at h; subst h; rfl
theorem zve (l : List UInt8) : l = (if yw l then [45] else []) ++ zm l := by
 by_cases h : yw l = true
 . rw [if_pos h]; exact X1 h
 . rw [if_neg h, ZA (by simpa using h)]; rfl
theorem zgb {l t : List UInt8} (h : yZ l = true) : yw (l ++ t) = false := by
 simp [yZ] at h
 unfold yw
 cases l with
 | nil => simp at h
 | cons c l =>
   have hc := h.1 c List.mem_cons_self
   simp
   rintro rfl
   simp [zk4] at hc
theorem XN {l : List UInt8} {q : Rat} (h : l = zi q) : yw l = decide (q.num < 0) /\ yk 47 (zm l) = dec q.num.natAbs /\ has 47 (zm l) = decide (q.den ≠ 1) /\
 (q.den ≠ 1 -> zX 47 (zm l) = dec q.den) := by
 have hn : yw (dec q.num.natAbs ++ (if q.den = 1 then [] else 47 :: dec q.den)) = false := zgb (XY _)
 have hs : yw l = decide (q.num < 0) := by
  rw [h, zi, List.append_assoc]
  by_cases h0 : q.num < 0
  . rw [if_pos h0]; simp [yw, h0]
  . rw [if_neg h0, List.nil_append, hn]; simp [h0]
 have hu : zm l = dec q.num.natAbs ++ (if q.den = 1 then [] else 47 :: dec q.den) := by
  by_cases h0 : q.num < 0
  . have := X1 (l := l) (by rw [hs]; simpa using h0)
    rw [h, zi, if_pos h0] at this; simp only [List.cons_append, List.nil_append, List.cons.injEq, true_and] at this; rw [h, zi, if_pos h0]; simp only [List.cons_append, List.nil_append]; rw [<- this]
  . rw [ZA (by rw [hs]; simpa using h0), h, zi, if_neg h0, List.nil_append]
 refine ⟨hs, ?_⟩
 rw [hu]
 by_cases hd : q.den = 1
 . rw [if_pos hd, List.append_nil]
   have hh := zms (zco q.num.natAbs) Vt; refine ⟨XJ hh, ?_, fun h => absurd hd h⟩; rw [hh]; simp [hd]
 . rw [if_neg hd]
   exact ⟨zo2 (zco _) Vt _, by rw [zvf]; simp [hd], fun _ => zng (zco _) Vt _⟩
theorem X3 {p q : Rat} (h : zi p = zi q) : p = q := by
 have h1 := XN (l := zi p) rfl
 have h2 := XN (l := zi p) h
 have e1 : dec p.num.natAbs = dec q.num.natAbs := h1.2.1.symm.trans h2.2.1
 have e2 := zdq e1
 have e3 : decide (p.num < 0) = decide (q.num < 0) := h1.1.symm.trans h2.1
 have e4 : decide (p.den ≠ 1) = decide (q.den ≠ 1) := h1.2.2.1.symm.trans h2.2.2.1
 have e5 : (p.num < 0) ↔ (q.num < 0) := by simpa using e3
 have e6 : (p.den = 1) ↔ (q.den = 1) := by
  have : (p.den ≠ 1) ↔ (q.den ≠ 1) := decide_eq_decide.1 e4
  omega
 apply Rat.ext
 . by_cases h0 : p.num < 0
   . have := e5.1 h0; omega
   . have : ¬ q.num < 0 := fun h => h0 (e5.2 h)
     omega
 . by_cases hd : p.den = 1
   . rw [hd, e6.1 hd]
   . have hd' : q.den ≠ 1 := fun h => hd (e6.2 h)
     exact zdq ((h1.2.2.2 hd).symm.trans (h2.2.2.2 hd'))
def zQ (l : List UInt8) : Bool := yZ l && (l.head? != some 48 || l.length == 1) && decide (l.length <= 50000)
theorem zh5 {n : Nat} (h : (dec n).length <= 50000) : zQ (dec n) = true := by
 unfold zQ
 rw [XY]
 by_cases hn : n = 0
 . subst hn; rw [xM]; decide
 . have h1 : ((dec n).head? != some 48) = true := by
    rw [bne_iff_ne]; intro h2; exact zs9 n hn 48 h2 rfl
   rw [h1]; simp [h]
theorem ZV {l : List UInt8} (h : zQ l = true) : dec (z9 l) = l /\ l.length <= 50000 /\ yZ l = true := by
 unfold zQ at h
 simp only [Bool.and_eq_true, Bool.or_eq_true, bne_iff_ne, ne_eq, beq_iff_eq, decide_eq_true_eq] at h
 exact ⟨znj h.1.1 h.1.2, h.2, h.1.1⟩
theorem V2 {l : List UInt8} (hn : zQ (yk 47 (zm l)) = true) (h0 : yw l = true -> yk 47 (zm l) ≠ [48])
 (hd : has 47 (zm l) = true -> zQ (zX 47 (zm l)) = true /\ zX 47 (zm l) ≠ [48] /\ zX 47 (zm l) ≠ [49] /\
   Nat.Coprime (z9 (yk 47 (zm l))) (z9 (zX 47 (zm l)))) :
 zhg l (xw (yw l) (z9 (yk 47 (zm l))) (if has 47 (zm l) then z9 (zX 47 (zm l)) else 1)) := by
 obtain ⟨e1, l1, _⟩ := ZV hn
 have hl := zve l
 generalize hs : yw l = s at *
 generalize hu : zm l = u at *
 have hneg : s = true -> z9 (yk 47 u) ≠ 0 := by
  intro hs' h
  rw [h, xM] at e1
  exact h0 hs' e1.symm
 by_cases hh : has 47 u = true
 . obtain ⟨hd1, hd2, hd3, hc⟩ := hd hh
   obtain ⟨e2, l2, _⟩ := ZV hd1
   have hz : z9 (zX 47 u) ≠ 0 := by
    intro h; rw [h, xM] at e2; exact hd2 e2.symm
   have h1 : z9 (zX 47 u) ≠ 1 := by
    intro h; rw [h] at e2; exact hd3 (by rw [<- e2]; simp [dec, Z2 (β := 10) (n := 1) (by omega) (by omega), Zj]; decide)
   rw [if_pos hh]; obtain ⟨p1, p2⟩ := YY (neg := s) hc hz; have p3 : (xw s (z9 (yk 47 u)) (z9 (zX 47 u))).num.natAbs = z9 (yk 47 u) := by rw [p1]; cases s <;> simp
   refine ⟨?_, by unfold zS; rw [p2, p3, e1, e2]; exact ⟨l1, l2⟩⟩; unfold zi; rw [p2, p3, e1, e2, if_neg h1, p1, hl]; rw [List.append_assoc]
   congr 1
   . cases s with
     | false => rw [if_neg (by simp), if_neg (by simp)]
     | true => rw [if_pos rfl, if_pos rfl, if_pos (by have := hneg rfl; omega)]
   . exact zts hh
 . rw [if_neg hh]
   have hh' : has 47 u = false := by simpa using hh
   have eu := XJ hh'; obtain ⟨p1, p2⟩ := YY (neg := s) (n := z9 (yk 47 u)) (d := 1) (by simp) (by omega); have p3 : (xw s (z9 (yk 47 u)) 1).num.natAbs = z9 (yk 47 u) := by rw [p1]; cases s <;> simp
   refine ⟨?_, by
    unfold zS; rw [p2, p3, e1]
    exact ⟨l1, by simp [dec, Z2 (β := 10) (n := 1) (by omega) (by omega), Zj]⟩⟩
   unfold zi; rw [p2, p3, e1, p1, hl, if_pos rfl, List.append_nil, eu]
   congr 1
   cases s with
   | false => rw [if_neg (by simp), if_neg (by simp)]
   | true => rw [if_pos rfl, if_pos rfl, if_pos (by have := hneg rfl; rw [eu] at this; omega)]
theorem zdr : dec 1 = [49] := by simp [dec, Z2 (β := 10) (n := 1) (by omega) (by omega), Zj]; decide
theorem Zn {l : List UInt8} {q : Rat} (h : zhg l q) :
 zQ (yk 47 (zm l)) = true /\ (yw l = true -> yk 47 (zm l) ≠ [48]) /\
 (has 47 (zm l) = true -> zQ (zX 47 (zm l)) = true /\ zX 47 (zm l) ≠ [48] /\ zX 47 (zm l) ≠ [49] /\
   yk 47 (zm l) ≠ [48] /\ Nat.Coprime (z9 (yk 47 (zm l))) (z9 (zX 47 (zm l)))) /\
 q = xw (yw l) (z9 (yk 47 (zm l))) (if has 47 (zm l) then z9 (zX 47 (zm l)) else 1) := by
 obtain ⟨h1, h2, h3, h4⟩ := XN h.1
 have hsh := h.2
 have hz : dec q.num.natAbs = [48] -> q.num = 0 := by
  intro e
  have : q.num.natAbs = 0 := zdq (e.trans xM.symm)
  omega
 have hnum : q.num = if decide (q.num < 0) = true then -(q.num.natAbs : Int) else q.num.natAbs := by
  by_cases h0 : q.num < 0
  . simp [h0]; omega
  . simp [h0]; omega
 refine ⟨by rw [h2]; exact zh5 hsh.1, ?_, ?_, ?_⟩
 . rw [h1, h2]
   intro h0 e; have := hz e; simp at h0
   omega
 . rw [h3]
   intro hd; have hd' : q.den ≠ 1 := by simpa using hd
   rw [h2, h4 hd', vY, vY]; refine ⟨zh5 hsh.2, ?_, ?_, ?_, q.reduced⟩
   . intro e; exact q.den_nz (zdq (e.trans xM.symm))
   . intro e; exact hd' (zdq (e.trans zdr.symm))
   . intro e
     have h0 := hz e; have := q.reduced; rw [h0] at this; simp at this; exact hd' this
 . rw [h1, h2, h3, vY]
   by_cases hd : q.den = 1
   . have : decide (q.den ≠ 1) = false := by simp [hd]
     rw [this, if_neg (by simp), xw, <- hnum]
     conv => lhs; rw [<- Rat.num_divInt_den q, hd]
   . have : decide (q.den ≠ 1) = true := by simp [hd]
     rw [this, if_pos rfl, h4 hd, vY, xw, <- hnum, Rat.num_divInt_den]
def zl (l : List UInt8) : Option Rat :=
 let q := xw (yw l) (z9 (yk 47 (zm l))) (if has 47 (zm l) then z9 (zX 47 (zm l)) else 1)
 if l = zi q /\ zS 50000 q then some q else none
theorem yD {l : List UInt8} {q : Rat} : zl l = some q ↔ zhg l q := by
 unfold zl
 constructor
 . intro h
   simp only at h; generalize xw (yw l) (z9 (yk 47 (zm l))) (if has 47 (zm l) then z9 (zX 47 (zm l)) else 1) = r at h
   split at h
   . rename_i h1; injection h with h; subst h; exact h1
   . cases h
 . intro h
   have e := (Zn h).2.2.2
   simp only
   rw [<- e]; exact if_pos h
theorem vF {l : List UInt8} : zl l = none ↔ ∀ q, ¬ zhg l q := by
 constructor
 . intro h q hq; rw [yD.2 hq] at h; cases h
 . intro h
   cases hr : zl l with
   | none => rfl
   | some q => exact absurd (yD.1 hr) (h q)
theorem vE {q : Rat} (h : zS 50000 q) : zl (zi q) = some q := yD.2 ⟨rfl, h⟩
theorem ztf {l : List UInt8} (h : zQ (yk 47 (zm l)) = false) : zl l = none := by
 rw [vF]
 intro q hq
 have := (Zn hq).1
 rw [h] at this; cases this
theorem zs4 {l : List UInt8} (h : yw l = true) (h0 : yk 47 (zm l) = [48]) : zl l = none := by
 rw [vF]
 intro q hq
 exact (Zn hq).2.1 h h0
theorem Z3 {l : List UInt8} (h : has 47 (zm l) = true) (h0 : zQ (zX 47 (zm l)) = false \/ zX 47 (zm l) = [48] \/ zX 47 (zm l) = [49] \/ yk 47 (zm l) = [48]) : zl l = none := by
 rw [vF]
 intro q hq
 obtain ⟨h1, h2, h3, h4, _⟩ := (Zn hq).2.2.1 h
 rcases h0 with h0 | h0 | h0 | h0
 . rw [h0] at h1; cases h1
 . exact h2 h0
 . exact h3 h0
 . exact h4 h0
theorem YJ (s : Bool) (n : Nat) : (xw s n 1).num = (if s then -(n : Int) else n) /\ (xw s n 1).den = 1 := YY (by simp) (by omega)
theorem zbd {l : List UInt8} (h : zQ (yk 47 (zm l)) = true) (h0 : yw l = true -> yk 47 (zm l) ≠ [48]) (hh : has 47 (zm l) = false) : zl l = some (xw (yw l) (z9 (yk 47 (zm l))) 1) := by
 rw [yD]
 have := V2 h h0 (by rw [hh]; intro h; cases h)
 rw [hh] at this
 simpa using this
theorem zeg {s : Bool} {n d : Nat} (hd : d ≠ 0) (h : (xw s n d).den = d) : Nat.Coprime n d := by
 unfold xw at h
 rw [Rat.den_divInt, if_neg (by omega)] at h
 have hg : (d : Int).gcd (if s then -(n : Int) else n) = Nat.gcd n d := by
  cases s <;> simp [Int.gcd, Nat.gcd_comm]
 rw [hg] at h
 have h1 : 0 < Nat.gcd n d := Nat.gcd_pos_of_pos_right _ (by omega)
 have h2 : Nat.gcd n d ∣ d := Nat.gcd_dvd_right n d
 obtain ⟨k, hk⟩ := h2
 have h3 : d / Nat.gcd n d = k := by
  conv => lhs; lhs; rw [hk]
  exact Nat.mul_div_cancel_left _ h1
 have h4 : (d : Int).natAbs = d := Int.natAbs_natCast d
 rw [h4, h3] at h
 have h5 : Nat.gcd n d * d = 1 * d := by rw [Nat.one_mul]; conv => lhs; rhs; rw [<- h]
                                         exact hk.symm
 exact Nat.eq_of_mul_eq_mul_right (by omega) h5
theorem zg3 {l : List UInt8} (h : zQ (yk 47 (zm l)) = true) (h0 : yw l = true -> yk 47 (zm l) ≠ [48]) (hh : has 47 (zm l) = true)
 (h1 : zQ (zX 47 (zm l)) = true) (h2 : zX 47 (zm l) ≠ [48]) (h3 : zX 47 (zm l) ≠ [49]) :
 zl l = if (xw (yw l) (z9 (yk 47 (zm l))) (z9 (zX 47 (zm l)))).den = z9 (zX 47 (zm l)) then some (xw (yw l) (z9 (yk 47 (zm l))) (z9 (zX 47 (zm l)))) else none := by
 have hz : z9 (zX 47 (zm l)) ≠ 0 := by
  intro e
  have := (ZV h1).1
  rw [e, xM] at this
  exact h2 this.symm
 split
 . rename_i hd
   rw [yD]; have := V2 h h0 (fun _ => ⟨h1, h2, h3, zeg hz hd⟩); rw [hh] at this
   simpa using this
 . rename_i hd
   rw [vF]; intro q hq
   apply hd
   exact (YY ((Zn hq).2.2.1 hh).2.2.2.2 hz).2
theorem V8 {l : List UInt8} (h1 : zQ l = true) (h2 : l ≠ [48]) : z9 l ≠ 0 := by
 intro e
 have := (ZV h1).1
 rw [e, xM] at this
 exact h2 this.symm
theorem VI {l : List UInt8} (h : zQ l = true) : len 4294967296 (z9 l) <= 50000 := by
 obtain ⟨h1, h2, h3⟩ := ZV h
 have h4 := YN (β := 4294967296) (n := z9 l) (by omega)
 rw [h1] at h4
 omega
theorem Ym {l : List UInt8} (h : zQ l = true) : l.all yT = true /\ l.length <= 50000 := by
 obtain ⟨h1, h2, h3⟩ := ZV h
 unfold yZ at h3
 rw [Bool.and_eq_true] at h3
 exact ⟨h3.1, h2⟩
theorem zS.len {M : Nat} {q : Rat} (h : zS M q) : Go.Proofs.YtdecgcdkaaiglaaGreat.len 4294967296 q.num.natAbs <= M /\ Go.Proofs.YtdecgcdkaaiglaaGreat.len 4294967296 (q.den : Int).natAbs <= M :=
 ⟨Nat.le_trans (YN (by omega)) h.1, by rw [Int.natAbs_natCast]; exact Nat.le_trans (YN (by omega)) h.2⟩
def xF (l : List UInt8) : List UInt8 := if has 47 (zm l) then zX 47 (zm l) else [49]
theorem Yp {q : Rat} (h : zS 50000 q) : (zi q).length <= 100002 := by
 obtain ⟨h1, h2⟩ := h
 unfold zi
 rw [List.length_append, List.length_append]
 have e1 : (if q.num < 0 then ([45] : List UInt8) else []).length <= 1 := by split <;> simp
 have e2 : (if q.den = 1 then ([] : List UInt8) else 47 :: dec q.den).length <= 50001 := by split <;> simp; omega
 omega
theorem zpk {l : List UInt8} (h : 100002 < l.length) : zl l = none := by
 rw [vF]
 rintro q ⟨rfl, h2⟩
 have := Yp h2
 omega
theorem zmv {l : List UInt8} {q : Rat} (h : zhg l q) : yk 47 (zm l) = dec q.num.natAbs /\ xF l = dec q.den := by
 obtain ⟨h1, h2, h3, h4⟩ := XN h.1
 refine ⟨h2, ?_⟩
 unfold xF
 rw [h3]
 by_cases hd : q.den = 1
 . rw [hd, zdr]; simp
 . rw [if_pos (by simpa using hd), h4 hd]
theorem Y4 {l : List UInt8} (h : yZ (yk 47 (zm l)) = false \/ yZ (xF l) = false \/ 50000 < (yk 47 (zm l)).length \/ 50000 < (xF l).length \/ z9 (xF l) = 0) : zl l = none := by
 rw [vF]
 intro q hq
 obtain ⟨h1, h2⟩ := zmv hq
 rw [h1, h2] at h
 obtain ⟨_, h3, h4⟩ := hq
 rcases h with h | h | h | h | h
 . rw [XY] at h; cases h
 . rw [XY] at h; cases h
 . omega
 . omega
 . rw [vY] at h; exact q.den_nz h
theorem zr8 (l : List UInt8) : (if has 47 (zm l) then z9 (zX 47 (zm l)) else 1) = z9 (xF l) := by
 unfold xF
 split
 . rfl
 . rfl
theorem zpo {l : List UInt8} (h1 : yZ (yk 47 (zm l)) = true) (h2 : yZ (xF l) = true) (h3 : (yk 47 (zm l)).length <= 50000) (h4 : (xF l).length <= 50000) :
 zl l = if zi (xw (yw l) (z9 (yk 47 (zm l))) (z9 (xF l))) = l then some (xw (yw l) (z9 (yk 47 (zm l))) (z9 (xF l))) else none := by
 unfold zl
 rw [zr8]
 simp only
 generalize hq : xw (yw l) (z9 (yk 47 (zm l))) (z9 (xF l)) = q
 by_cases he : zi q = l
 . rw [if_pos he]
   have hs : zS 50000 q := by
    obtain ⟨e1, e2, e3, e4⟩ := XN he.symm
    constructor
    . rw [<- e2]; exact h3
    . by_cases hd : q.den = 1
      . rw [hd, zdr]; decide
      . rw [<- e4 hd]
        unfold xF at h4; rw [e3, if_pos (by simpa using hd)] at h4; exact h4
   rw [if_pos ⟨he.symm, hs⟩]
 . rw [if_neg he, if_neg (fun h => he h.1.symm)]
def zfu (b : Bool) (n : Nat) : Int := if b then -(n : Int) else n
theorem YK (b : Bool) (n d : Nat) : xw b n d = Rat.divInt (zfu b n) d := rfl
theorem zac (x : Rat) : x.num = zfu (decide (x.num < 0)) x.num.natAbs := by
 unfold zfu
 by_cases h : x.num < 0
 . rw [decide_eq_true h, if_pos rfl]; omega
 . rw [decide_eq_false h, if_neg (by decide)]; omega
theorem Zh (x : Rat) : Rat.divInt x.num x.den = x := Rat.num_divInt_den x
theorem zrp (x : Rat) : x = Rat.divInt (zfu (decide (x.num < 0)) x.num.natAbs) x.den := by
 rw [<- zac]
 exact (Zh x).symm
theorem zmd (a b : Bool) (n m : Nat) : zfu a n * zfu b m = zfu (a != b) (n * m) := by
 unfold zfu
 cases a <;> cases b <;> simp [Int.neg_mul, Int.mul_neg]
theorem zt4 (x y : Rat) : x * y = xw (decide (x.num < 0) != decide (y.num < 0)) (x.num.natAbs * y.num.natAbs) (x.den * y.den) := by
 rw [YK, <- zmd, <- zac, <- zac, Int.natCast_mul, <- Rat.divInt_mul_divInt, Zh, Zh]
theorem zt8 (y : Rat) : y⁻¹ = Rat.divInt (zfu (decide (y.num < 0)) y.den) y.num.natAbs := by
 conv => lhs; rw [<- Zh y, Rat.inv_divInt]
 unfold zfu
 by_cases h : y.num < 0
 . rw [decide_eq_true h, if_pos rfl]
   have : y.num = -((y.num.natAbs : Nat) : Int) := by omega
   conv => lhs; rw [this, Rat.divInt_neg']
 . rw [decide_eq_false h, if_neg (by decide)]
   have : y.num = ((y.num.natAbs : Nat) : Int) := by omega
   conv => lhs; rw [this]
theorem zva (x y : Rat) : x / y = xw (decide (x.num < 0) != decide (y.num < 0)) (x.num.natAbs * y.den) (x.den * y.num.natAbs) := by
 rw [Rat.div_def, zt8, YK, <- zmd, Int.natCast_mul, <- Rat.divInt_mul_divInt, <- zrp]
theorem zj2 (x y : Rat) : x + y = Rat.divInt (zfu (decide (x.num < 0)) (x.num.natAbs * y.den) + zfu (decide (y.num < 0)) (y.num.natAbs * x.den)) ((x.den * y.den : Nat) : Int) := by
 have e1 : zfu (decide (x.num < 0)) (x.num.natAbs * y.den) = x.num * y.den := by
  conv => rhs; rw [zac x]
  unfold zfu; split <;> simp [Int.neg_mul]
 have e2 : zfu (decide (y.num < 0)) (y.num.natAbs * x.den) = y.num * x.den := by
  conv => rhs; rw [zac y]
  unfold zfu; split <;> simp [Int.neg_mul]
 rw [e1, e2]
 conv => lhs; rw [<- Zh x, <- Zh y]
 rw [Rat.divInt_add_divInt _ _ (by have := x.den_nz; omega) (by have := y.den_nz; omega), Int.natCast_mul]
theorem zi2 {x y : Rat} (h : decide (x.num < 0) = decide (y.num < 0)) : x + y = xw (decide (x.num < 0)) (x.num.natAbs * y.den + y.num.natAbs * x.den) (x.den * y.den) := by
 rw [zj2, YK, <- h]
 congr 1
 unfold zfu; split <;> push_cast <;> omega
theorem zn2 {x y : Rat} (h : decide (x.num < 0) ≠ decide (y.num < 0)) (hle : y.num.natAbs * x.den <= x.num.natAbs * y.den) : x + y = xw (decide (x.num < 0)) (x.num.natAbs * y.den - y.num.natAbs * x.den) (x.den * y.den) := by
 rw [zj2, YK]
 congr 1
 generalize x.num.natAbs * y.den = a at *
 generalize y.num.natAbs * x.den = b at *
 cases hx : decide (x.num < 0) <;> cases hy : decide (y.num < 0) <;> simp [hx, hy] at h <;> simp [zfu] <;> omega
theorem zn0 {x y : Rat} (h : decide (x.num < 0) ≠ decide (y.num < 0)) (hle : x.num.natAbs * y.den < y.num.natAbs * x.den) : x + y = xw (decide (y.num < 0)) (y.num.natAbs * x.den - x.num.natAbs * y.den) (x.den * y.den) := by
 rw [zj2, YK]
 congr 1
 generalize x.num.natAbs * y.den = a at *
 generalize y.num.natAbs * x.den = b at *
 cases hx : decide (x.num < 0) <;> cases hy : decide (y.num < 0) <;> simp [hx, hy] at h <;> simp [zfu] <;> omega
def yo (n : Nat) (f : Nat -> Rat) : Rat := match n with
 | 0 => 0
 | n + 1 => yo n f + f n
theorem xG (f : Nat -> Rat) : yo 0 f = 0 := rfl
theorem yg (n : Nat) (f : Nat -> Rat) : yo (n + 1) f = yo n f + f n := rfl
theorem zR {n : Nat} {f g : Nat -> Rat} (h : ∀ k, k < n -> f k = g k) : yo n f = yo n g := by
 induction n with
 | zero => rfl
 | succ n ih => rw [yg, yg, ih (fun k hk => h k (by omega)), h n (by omega)]
theorem Yv (n : Nat) : yo n (fun _ => 0) = 0 := by
 induction n with
 | zero => rfl
 | succ n ih => rw [yg, ih]; grind
theorem YA (n : Nat) (f g : Nat -> Rat) : yo n (fun k => f k + g k) = yo n f + yo n g := by
 induction n with
 | zero => rw [xG, xG, xG]; grind
 | succ n ih => rw [yg, yg, yg, ih]; grind
theorem zd3 (n : Nat) (f g : Nat -> Rat) : yo n (fun k => f k - g k) = yo n f - yo n g := by
 induction n with
 | zero => rw [xG, xG, xG]; grind
 | succ n ih => rw [yg, yg, yg, ih]; grind
theorem VF (n : Nat) (a : Rat) (f : Nat -> Rat) : yo n (fun k => a * f k) = a * yo n f := by
 induction n with
 | zero => rw [xG, xG]; grind
 | succ n ih => rw [yg, yg, ih]; grind
theorem zp9 (n : Nat) (f : Nat -> Rat) : yo n (fun k => -(f k)) = -(yo n f) := by
 induction n with
 | zero => rw [xG, xG]; grind
 | succ n ih => rw [yg, yg, ih]; grind
theorem zhj {n : Nat} {f : Nat -> Rat} (h : ∀ k, k < n -> 0 <= f k) : 0 <= yo n f := by
 induction n with
 | zero => rw [xG]; grind
 | succ n ih => rw [yg]; have := ih (fun k hk => h k (by omega)); have := h n (by omega); grind
theorem zfi {n : Nat} {f : Nat -> Rat} (h : ∀ k, k < n -> 0 <= f k) (h0 : yo n f = 0) : ∀ k, k < n -> f k = 0 := by
 induction n with
 | zero => intro k hk; omega
 | succ n ih =>
   rw [yg] at h0; have h1 := zhj (n := n) (f := f) (fun k hk => h k (by omega)); have h2 := h n (by omega); intro k hk
   rcases Nat.lt_or_ge k n with h3 | h3
   . exact ih (fun k hk => h k (by omega)) (by grind) k h3
   . obtain rfl : k = n := by omega
     grind
theorem vy {n : Nat} {f : Nat -> Rat} {j : Nat} (hj : j < n) (h : ∀ k, k < n -> k ≠ j -> f k = 0) : yo n f = f j := by
 induction n with
 | zero => omega
 | succ n ih =>
   rw [yg]
   rcases Nat.lt_or_ge j n with h3 | h3
   . rw [ih h3 (fun k hk hne => h k (by omega) hne), h n (by omega) (by omega)]; grind
   . obtain rfl : j = n := by omega
     rw [zR (g := fun _ => 0) (fun k hk => h k (by omega) (by omega)), Yv]; grind
theorem zom {n : Nat} {f : Nat -> Rat} {i j : Nat} (hi : i < n) (hj : j < n) (hne : i ≠ j) (h : ∀ k, k < n -> k ≠ i -> k ≠ j -> f k = 0) : yo n f = f i + f j := by
 have e : yo n f = yo n (fun k => (if k = i then f i else 0) + (if k = j then f j else 0)) := by
  apply zR
  intro k hk
  by_cases h1 : k = i
  . subst h1; rw [if_pos rfl, if_neg hne]; grind
  . by_cases h2 : k = j
    . subst h2; rw [if_neg h1, if_pos rfl]; grind
    . rw [if_neg h1, if_neg h2, h k hk h1 h2]; grind
 rw [e, YA, vy hi (fun k _ hk => if_neg hk), vy hj (fun k _ hk => if_neg hk), if_pos rfl, if_pos rfl]
abbrev Tab := Nat -> Nat -> Rat
def xR (m : Nat) (A : Tab) (x : Nat -> Rat) : Prop := ∀ i, i < m -> yo m (fun c => A i c * x c) = A i m
def zgz (m : Nat) (A : Tab) : Prop := ∀ x : Nat -> Rat, (∀ i, i < m -> yo m (fun c => A i c * x c) = 0) -> ∀ c, c < m -> x c = 0
def zec (m k : Nat) (A : Tab) : Prop := ∀ j, j < k -> A j j ≠ 0 /\ ∀ i, i < m -> i ≠ j -> A i j = 0
def swapped (A : Tab) (k p : Nat) : Tab := fun i => if i = k then A p else if i = p then A k else A i
def freed (A : Tab) (k n : Nat) : Tab := fun i c => if i < n /\ i ≠ k then A i c - A i k / A k k * A k c else A i c
theorem pivot {m k : Nat} {A : Tab} (hO : zgz m A) (hC : zec m k A) (hk : k < m) : ∃ p, k <= p /\ p < m /\ A p k ≠ 0 := by
 apply Classical.byContradiction
 intro hno
 have h0 : ∀ p, k <= p -> p < m -> A p k = 0 := fun p h1 h2 => Classical.byContradiction fun h3 => hno ⟨p, h1, h2, h3⟩
 have := hO (fun c => if c < k then -(A c k / A c c) else if c = k then 1 else 0) (fun i hi => by
  by_cases hik : i < k
  . rw [zom (i := i) (j := k) hi hk (by omega)]
    . rw [if_pos hik, if_neg (by omega), if_pos rfl]
      have := (hC i hik).1
      grind
    . intro c hc h1 h2
      by_cases hck : c < k
      . rw [(hC c hck).2 i hi (by omega)]; grind
      . rw [if_neg hck, if_neg h2]; grind
  . rw [vy (j := k) hk]
    . rw [h0 i (by omega) hi]; grind
    . intro c hc h1
      by_cases hck : c < k
      . rw [(hC c hck).2 i hi (by omega)]; grind
      . rw [if_neg hck, if_neg h1]; grind) k hk
 rw [if_neg (by omega), if_pos rfl] at this
 exact absurd this (by grind)
theorem zgz.swapped {m k p : Nat} {A : Tab} (h : zgz m A) (hk : k < m) (hp : p < m) : zgz m (swapped A k p) := by
 intro x hx
 apply h x
 intro i hi
 by_cases h1 : i = k
 . subst h1
   have := hx p hp; unfold Go.Proofs.YtdecgcdkaaiglaaGreat.swapped at this
   by_cases h2 : p = i
   . subst h2; simpa using this
   . simpa [h2] using this
 . by_cases h2 : i = p
   . subst h2
     have := hx k hk
     simpa [Go.Proofs.YtdecgcdkaaiglaaGreat.swapped] using this
   . have := hx i hi
     simpa [Go.Proofs.YtdecgcdkaaiglaaGreat.swapped, h1, h2] using this
theorem xR.unswap {m k p : Nat} {A : Tab} {x : Nat -> Rat} (hx : xR m (swapped A k p) x) (hk : k < m) (hp : p < m) : xR m A x := by
 intro i hi
 by_cases h1 : i = k
 . subst h1
   have := hx p hp; unfold swapped at this
   by_cases h2 : p = i
   . subst h2; simpa using this
   . simpa [h2] using this
 . by_cases h2 : i = p
   . subst h2
     have := hx k hk
     simpa [swapped] using this
   . have := hx i hi
     simpa [swapped, h1, h2] using this
theorem zec.swapped {m k p : Nat} {A : Tab} (h : zec m k A) (hp : k <= p) (hpm : p < m) : zec m k (swapped A k p) := by
 intro j hj
 unfold Go.Proofs.YtdecgcdkaaiglaaGreat.swapped
 refine ⟨?_, fun i hi hne => ?_⟩
 . rw [if_neg (by omega), if_neg (by omega)]; exact (h j hj).1
 . by_cases h1 : i = k
   . rw [if_pos h1]; exact (h j hj).2 p hpm (by omega)
   . rw [if_neg h1]
     by_cases h2 : i = p
     . rw [if_pos h2]; exact (h j hj).2 k (by omega) (by omega)
     . rw [if_neg h2]; exact (h j hj).2 i hi hne
theorem zhb {m k n : Nat} {A : Tab} (x : Nat -> Rat) (i : Nat) (h : i < n /\ i ≠ k) :
 yo m (fun c => freed A k n i c * x c) = yo m (fun c => A i c * x c) - A i k / A k k * yo m (fun c => A k c * x c) := by
 rw [<- VF, <- zd3]
 apply zR
 intro c _
 unfold freed
 rw [if_pos h]; grind
theorem ZU {k n : Nat} {A : Tab} (i : Nat) (h : ¬ (i < n /\ i ≠ k)) : freed A k n i = A i := by
 funext c; unfold freed; rw [if_neg h]
theorem zgz.freed {m k n : Nat} {A : Tab} (h : zgz m A) (hk : k < m) : zgz m (freed A k n) := by
 intro x hx
 apply h x
 intro i hi
 have h1 := hx k hk
 rw [ZU k (by omega)] at h1
 have h2 := hx i hi
 by_cases h3 : i < n /\ i ≠ k
 . rw [zhb x i h3, h1] at h2
   grind
 . rwa [ZU i h3] at h2
theorem xR.unfree {m k n : Nat} {A : Tab} {x : Nat -> Rat} (hx : xR m (freed A k n) x) (hk : k < m) : xR m A x := by
 intro i hi
 have h1 := hx k hk
 rw [ZU k (by omega)] at h1
 have h2 := hx i hi
 by_cases h3 : i < n /\ i ≠ k
 . rw [zhb x i h3, h1] at h2
   unfold freed at h2; rw [if_pos h3] at h2
   grind
 . rwa [ZU i h3] at h2
theorem zec.freed {m k : Nat} {A : Tab} (h : zec m k A) (hk : k < m) (h0 : A k k ≠ 0) : zec m (k + 1) (freed A k m) := by
 intro j hj
 unfold Go.Proofs.YtdecgcdkaaiglaaGreat.freed
 refine ⟨?_, fun i hi hne => ?_⟩
 . by_cases h1 : j = k
   . subst h1; rw [if_neg (by omega)]; exact h0
   . rw [if_pos ⟨by omega, h1⟩, (h j (by omega)).2 k hk (by omega)]
     have := (h j (by omega)).1
     grind
 . by_cases h1 : i = k
   . subst h1
     rw [if_neg (by omega)]; exact (h j (by omega)).2 i hi hne
   . rw [if_pos ⟨hi, h1⟩]
     by_cases h2 : j = k
     . subst h2; grind
     . rw [(h j (by omega)).2 i hi hne, (h j (by omega)).2 k hk (by omega)]; grind
theorem zec.solves {m : Nat} {A : Tab} (h : zec m m A) : xR m A (fun c => A c m / A c c) := by
 intro i hi
 rw [vy (j := i) hi]
 . have := (h i hi).1
   grind
 . intro c hc hne
   rw [(h c hc).2 i hi (by omega)]; grind
def zol (m : Nat) (A : Tab) (C S : Nat) : Prop := ∃ (M : Nat -> Nat -> Int) (s : Nat -> Int), ∀ i, i < m -> s i ≠ 0 /\ (s i).natAbs <= S /\ ∀ c, c <= m -> A i c * s i = M i c /\ (M i c).natAbs <= C
theorem zol.swapped {m k p C S : Nat} {A : Tab} (h : zol m A C S) (hk : k < m) (hp : p < m) : zol m (swapped A k p) C S := by
 obtain ⟨M, s, h⟩ := h
 refine ⟨fun i => if i = k then M p else if i = p then M k else M i, fun i => if i = k then s p else if i = p then s k else s i, fun i hi => ?_⟩
 unfold Go.Proofs.YtdecgcdkaaiglaaGreat.swapped
 by_cases h1 : i = k
 . simp only [h1, if_true]; exact h p hp
 . by_cases h2 : i = p
   . by_cases h3 : p = k
     . omega
     . simp only [h2, h3, if_true, if_false]; exact h k hk
   . simp only [h1, h2, if_false]; exact h i hi
theorem vM {a : Int} (h : a ≠ 0) : (a : Rat) ≠ 0 := by
 intro e
 exact h (by exact_mod_cast e)
theorem zsk {a b c d : Rat} {s t m1 m2 m3 m4 : Int} (ht : t ≠ 0) (h1 : a * s = m1) (h2 : b * s = m2) (h3 : c * t = m3) (h4 : d * t = m4) (h0 : c ≠ 0) :
 (a - b / c * d) * ((s * m3 : Int) : Rat) = ((m3 * m1 - m2 * m4 : Int) : Rat) := by
 have := vM ht
 push_cast
 rw [<- h1, <- h2, <- h3, <- h4]
 grind
theorem zol.freed {m k n C S : Nat} {A : Tab} (h : zol m A C S) (hk : k < m) (h0 : A k k ≠ 0) (hn : n <= m) : zol m (freed A k n) (2 * C * C) (S * C + S) := by
 obtain ⟨M, s, h⟩ := h
 obtain ⟨k1, k2, k3⟩ := h k hk
 obtain ⟨k4, k5⟩ := k3 k (by omega)
 have hMk : M k k ≠ 0 := by
  intro e
  rw [e] at k4
  have := vM k1
  have e0 : ((0 : Int) : Rat) = 0 := rfl
  rw [e0] at k4
  grind
 have hC : 0 < C := by omega
 have hCC : C <= 2 * C * C := by
  calc C <= C * C := Nat.le_mul_of_pos_left _ hC
   _ <= 2 * C * C := by rw [Nat.mul_assoc]; omega
 refine ⟨fun i c => if i < n /\ i ≠ k then M k k * M i c - M i k * M k c else M i c, fun i => if i < n /\ i ≠ k then s i * M k k else s i, fun i hi => ?_⟩
 obtain ⟨j1, j2, j3⟩ := h i hi
 unfold Go.Proofs.YtdecgcdkaaiglaaGreat.freed
 by_cases hc : i < n /\ i ≠ k
 . simp only [hc, if_true, not_false_eq_true, and_self, ne_eq]
   refine ⟨Int.mul_ne_zero j1 hMk, ?_, fun c hcm => ⟨?_, ?_⟩⟩
   . rw [Int.natAbs_mul]
     have := Nat.mul_le_mul j2 k5
     omega
   . exact zsk k1 (j3 c hcm).1 (j3 k (by omega)).1 k4 (k3 c hcm).1 h0
   . have e1 : (M k k * M i c - M i k * M k c).natAbs <= (M k k).natAbs * (M i c).natAbs + (M i k).natAbs * (M k c).natAbs := by
      rw [<- Int.natAbs_mul, <- Int.natAbs_mul]; omega
     have e2 := Nat.mul_le_mul k5 (j3 c hcm).2; have e3 := Nat.mul_le_mul (j3 k (by omega)).2 (k3 c hcm).2; rw [Nat.mul_assoc]
     omega
 . simp only [hc, if_false]
   refine ⟨j1, by omega, fun c hcm => ⟨(j3 c hcm).1, ?_⟩⟩; have := (j3 c hcm).2
   omega
def vJ (n : Nat) (pf pt : Nat -> Nat) (c : Nat -> Rat) (h : Nat -> Rat) (k : Nat) : Rat :=
 yo n (fun i => (if pf i = k then c i * (h (pf i) - h (pt i)) else 0) + (if pt i = k then c i * (h (pt i) - h (pf i)) else 0))
theorem Vy (pf pt : Nat -> Nat) (c h : Nat -> Rat) (k : Nat) : vJ 0 pf pt c h k = 0 := rfl
theorem YV (n : Nat) (pf pt : Nat -> Nat) (c h : Nat -> Rat) (k : Nat) : vJ (n + 1) pf pt c h k = vJ n pf pt c h k + ((if pf n = k then c n * (h (pf n) - h (pt n)) else 0) + (if pt n = k then c n * (h (pt n) - h (pf n)) else 0)) := rfl
theorem za0 (n : Nat) (pf pt : Nat -> Nat) (c g h : Nat -> Rat) (k : Nat) : vJ n pf pt c (fun j => g j - h j) k = vJ n pf pt c g k - vJ n pf pt c h k := by
 unfold vJ
 rw [<- zd3]
 apply zR
 intro i _
 by_cases h1 : pf i = k <;> by_cases h2 : pt i = k <;> simp only [h1, h2, if_true, if_false] <;> grind
theorem zmr (n : Nat) (pf pt : Nat -> Nat) (c g : Nat -> Rat) (k : Nat) : vJ n pf pt c (fun j => -(g j)) k = -(vJ n pf pt c g k) := by
 unfold vJ
 rw [<- zp9]
 apply zR
 intro i _
 by_cases h1 : pf i = k <;> by_cases h2 : pt i = k <;> simp only [h1, h2, if_true, if_false] <;> grind
theorem ziz {n : Nat} {pf pt : Nat -> Nat} {c g h : Nat -> Rat} {k : Nat} (e : ∀ i, i < n -> g (pf i) = h (pf i) /\ g (pt i) = h (pt i)) : vJ n pf pt c g k = vJ n pf pt c h k := by
 unfold vJ
 apply zR
 intro i hi
 rw [(e i hi).1, (e i hi).2]
inductive vA (np : Nat) (pf pt : Nat -> Nat) (S : Nat -> Prop) : Nat -> Prop
 | base {k : Nat} : S k -> vA np pf pt S k
 | right {i : Nat} : i < np -> vA np pf pt S (pf i) -> vA np pf pt S (pt i)
 | left {i : Nat} : i < np -> vA np pf pt S (pt i) -> vA np pf pt S (pf i)
theorem zvz (g : Nat -> Rat) (N : Nat) (hN : 0 < N) : ∃ k, k < N /\ ∀ j, j < N -> g j <= g k := by
 induction N with
 | zero => omega
 | succ N ih =>
   rcases Nat.eq_zero_or_pos N with h0 | h0
   . subst h0
     exact ⟨0, by omega, fun j hj => by obtain rfl : j = 0 := by omega
                                        grind⟩
   . obtain ⟨k, hk, h⟩ := ih h0
     by_cases h1 : g N <= g k
     . refine ⟨k, by omega, fun j hj => ?_⟩
       rcases Nat.lt_or_ge j N with h2 | h2
       . exact h j h2
       . obtain rfl : j = N := by omega
         exact h1
     . refine ⟨N, by omega, fun j hj => ?_⟩
       rcases Nat.lt_or_ge j N with h2 | h2
       . have := h j h2; grind
       . obtain rfl : j = N := by omega
         grind
structure Xk (N np : Nat) (pf pt : Nat -> Nat) (c : Nat -> Rat) : Prop where
 from_lt : ∀ i, i < np -> pf i < N
 to_lt : ∀ i, i < np -> pt i < N
 ne : ∀ i, i < np -> pf i ≠ pt i
 pos : ∀ i, i < np -> 0 < c i
theorem zfe {np : Nat} {pf pt : Nat -> Nat} {c g : Nat -> Rat} {N j : Nat} (hp : Xk N np pf pt c) (hmax : ∀ k, k < N -> g k <= g j) (hf : vJ np pf pt c g j = 0) :
 ∀ i, i < np -> (pf i = j -> g (pt i) = g j) /\ (pt i = j -> g (pf i) = g j) := by
 intro i hi
 have hz := zfi (fun k hk => ?_) hf i hi
 . have hc := hp.pos i hi
   have hne := hp.ne i hi; refine ⟨fun h => ?_, fun h => ?_⟩
   . subst h
     rw [if_pos rfl, if_neg (by omega)] at hz
     grind
   . subst h
     rw [if_neg (by omega), if_pos rfl] at hz
     grind
 . have hc := hp.pos k hk
   have h1 := hmax _ (hp.from_lt k hk); have h2 := hmax _ (hp.to_lt k hk); have hne := hp.ne k hk
   by_cases h3 : pf k = j
   . rw [if_pos h3, if_neg (by omega), h3]
     have := Rat.mul_nonneg (a := c k) (b := g j - g (pt k)) (by grind) (by grind)
     grind
   . rw [if_neg h3]
     by_cases h4 : pt k = j
     . rw [if_pos h4, h4]
       have := Rat.mul_nonneg (a := c k) (b := g j - g (pf k)) (by grind) (by grind)
       grind
     . rw [if_neg h4]; grind
theorem zdx {N np : Nat} {pf pt : Nat -> Nat} {c g : Nat -> Rat} {S F : Nat -> Prop} (hp : Xk N np pf pt c) (hS : ∀ k, S k -> ¬ F k)
 (h0 : ∀ k, k < N -> ¬ F k -> g k = 0) (hf : ∀ k, k < N -> F k -> vJ np pf pt c g k = 0) (hj : ∀ k, k < N -> F k -> vA np pf pt S k) (hSN : ∀ k, S k -> k < N) :
 ∀ k, k < N -> g k <= 0 := by
 intro k hk
 obtain ⟨m, hm, hmax⟩ := zvz g N (by omega)
 apply Classical.byContradiction
 intro hpos
 have hM : 0 < g m := by have := hmax k hk; grind
 have hmF : F m := Classical.byContradiction fun h => by have := h0 m hm h; grind
 have hne : ∀ j, vA np pf pt S j -> g j ≠ g m := by
  intro j hJ
  induction hJ with
  | base hs =>
    intro e; have := h0 _ (hSN _ hs) (hS _ hs)
    grind
  | @right i hi hJ ih =>
    intro e; have hF : F (pt i) := Classical.byContradiction fun h => by have := h0 _ (hp.to_lt i hi) h; grind
    have h1 := zfe hp (j := pt i) (fun k hk => by rw [e]; exact hmax k hk) (hf _ (hp.to_lt i hi) hF) i hi; exact ih ((h1.2 rfl).trans e)
  | @left i hi hJ ih =>
    intro e; have hF : F (pf i) := Classical.byContradiction fun h => by have := h0 _ (hp.from_lt i hi) h; grind
    have h1 := zfe hp (j := pf i) (fun k hk => by rw [e]; exact hmax k hk) (hf _ (hp.from_lt i hi) hF) i hi; exact ih ((h1.1 rfl).trans e)
 exact hne m (hj m hm hmF) rfl
theorem YZ {N np : Nat} {pf pt : Nat -> Nat} {c g : Nat -> Rat} {S F : Nat -> Prop} (hp : Xk N np pf pt c) (hS : ∀ k, S k -> ¬ F k)
 (h0 : ∀ k, k < N -> ¬ F k -> g k = 0) (hf : ∀ k, k < N -> F k -> vJ np pf pt c g k = 0) (hj : ∀ k, k < N -> F k -> vA np pf pt S k) (hSN : ∀ k, S k -> k < N) :
 ∀ k, k < N -> g k = 0 := by
 intro k hk
 have h1 := zdx hp hS h0 hf hj hSN k hk
 have h2 := zdx (g := fun j => -(g j)) hp hS (fun k hk h => by rw [h0 k hk h]; rfl) (fun k hk h => by rw [zmr, hf k hk h]; rfl) hj hSN k hk
 grind
def vV (N np : Nat) (pf pt : Nat -> Nat) (c : Nat -> Rat) (fx : Nat -> Option Rat) (wl : Nat -> Rat) (asked : Nat -> Bool) (h : Nat -> Rat) : Prop :=
 ∀ k, k < N -> match fx k with
  | some v => h k = v
  | none => if asked k = true then vJ np pf pt c h k = -(wl k) else h k = 0
def zvg (fx : Nat -> Option Rat) (asked : Nat -> Bool) (k : Nat) : Prop := fx k = none /\ asked k = true
def zwd (N np : Nat) (pf pt : Nat -> Nat) (fx : Nat -> Option Rat) (asked : Nat -> Bool) : Prop := ∀ k, k < N -> zvg fx asked k -> vA np pf pt (fun j => j < N /\ fx j ≠ none) k
theorem vV.unique {N np : Nat} {pf pt : Nat -> Nat} {c : Nat -> Rat} {fx : Nat -> Option Rat} {wl : Nat -> Rat} {asked : Nat -> Bool} {g h : Nat -> Rat}
 (hp : Xk N np pf pt c) (ht : zwd N np pf pt fx asked) (hg : vV N np pf pt c fx wl asked g) (hh : vV N np pf pt c fx wl asked h) : ∀ k, k < N -> g k = h k := by
 intro k hk
 have := YZ (g := fun j => g j - h j) (S := fun j => j < N /\ fx j ≠ none) (F := zvg fx asked) hp (fun j hj hf => hj.2 hf.1) (fun j hj hf => by
  have h1 := hg j hj
  have h2 := hh j hj
  cases hx : fx j with
  | some v => rw [hx] at h1 h2; simp only at h1 h2; grind
  | none =>
    rw [hx] at h1 h2; have : ¬ asked j = true := fun e => hf ⟨hx, e⟩
    simp only [this] at h1 h2
    grind) (fun j hj hf => by
  have h1 := hg j hj
  have h2 := hh j hj
  rw [hf.1] at h1 h2
  simp only [hf.2, if_true] at h1 h2
  rw [za0, h1, h2]; grind) ht (fun j hj => hj.1) k hk
 grind
def lin (m : Nat) (A : Tab) (i : Nat) (x : Nat -> Rat) : Rat := yo m (fun c => A i c * x c) - A i m
def xi (A : Tab) (i c : Nat) (d : Rat) : Tab := fun i' c' => if i' = i /\ c' = c then A i c + d else A i' c'
theorem XV {m : Nat} {A : Tab} {i c : Nat} {d : Rat} (i' : Nat) (x : Nat -> Rat) (hc : c <= m) :
 lin m (xi A i c d) i' x = lin m A i' x + (if i' = i then (if c = m then -d else d * x c) else 0) := by
 unfold lin xi
 by_cases h1 : i' = i
 . subst h1
   by_cases h2 : c = m
   . subst h2
     have e : yo c (fun c' => (if i' = i' /\ c' = c then A i' c + d else A i' c') * x c') = yo c (fun c' => A i' c' * x c') := zR (fun k hk => by rw [if_neg (by omega)]); rw [e]; simp only [and_self, if_true]
     grind
   . have e : yo m (fun c' => (if i' = i' /\ c' = c then A i' c + d else A i' c') * x c') = yo m (fun c' => A i' c' * x c' + (if c' = c then d * x c else 0)) := by
      apply zR
      intro k hk
      by_cases h3 : k = c
      . subst h3; simp only [and_self, if_true]; grind
      . rw [if_neg (fun h => h3 h.2), if_neg h3]; grind
     have e2 : yo m (fun c' => if c' = c then d * x c else 0) = d * x c := by rw [vy (j := c) (by omega) (fun k _ hk => if_neg hk), if_pos rfl]
     rw [e, YA, e2, if_neg (fun h => h2 h.2.symm), if_pos rfl, if_neg h2]
     grind
 . have e : yo m (fun c' => (if i' = i /\ c' = c then A i c + d else A i' c') * x c') = yo m (fun c' => A i' c' * x c') := zR (fun k hk => by rw [if_neg (fun h => h1 h.1)])
   rw [e, if_neg (fun h => h1 h.1), if_neg h1]
   grind
theorem Y3 {m : Nat} {A : Tab} {x : Nat -> Rat} : xR m A x ↔ ∀ i, i < m -> lin m A i x = 0 := by
 unfold xR lin
 constructor
 . intro h i hi
   rw [h i hi]; grind
 . intro h i hi
   have := h i hi
   grind
theorem zd1 {m : Nat} {A : Tab} (h : ∀ x y : Nat -> Rat, (∀ i, i < m -> lin m A i x = lin m A i y) -> ∀ c, c < m -> x c = y c) : zgz m A := by
 intro x hx c hc
 refine h x (fun _ => 0) (fun i hi => ?_) c hc
 unfold lin
 rw [hx i hi]
 have e : yo m (fun c => A i c * 0) = yo m (fun _ => 0) := zR (fun k _ => by grind)
 rw [e, Yv]
def Sz (X : Nat) (q : Rat) : Prop := q.num.natAbs <= X /\ q.den <= X
theorem Sz.mono {X Y : Nat} {q : Rat} (h : Sz X q) (hXY : X <= Y) : Sz Y q := ⟨Nat.le_trans h.1 hXY, Nat.le_trans h.2 hXY⟩
theorem zk6 {X : Nat} {q : Rat} {s M : Int} (hs : s ≠ 0) (h : q * s = M) (h1 : M.natAbs <= X) (h2 : s.natAbs <= X) : Sz X q := by
 have e : q = Rat.divInt M s := by
  have h3 := vM hs
  rw [Rat.divInt_eq_div, <- h]
  grind
 have hg : (s.gcd M : Int) ∣ s.sign * M := Int.dvd_trans (Int.gcd_dvd_right s M) (Int.dvd_mul_left _ _)
 have hg0 : 0 < s.gcd M := Int.gcd_pos_of_ne_zero_left _ hs
 have hsn : (s.sign * M).natAbs <= M.natAbs := by
  rw [Int.natAbs_mul, Int.natAbs_sign, if_neg hs]; omega
 constructor
 . rw [e, Rat.num_divInt]
   obtain ⟨t, ht⟩ := hg; rw [ht, Int.mul_ediv_cancel_left _ (by omega)]; rw [ht, Int.natAbs_mul] at hsn; have h3 : t.natAbs <= (s.gcd M : Int).natAbs * t.natAbs := Nat.le_mul_of_pos_left _ (by simpa using hg0)
   omega
 . rw [e, Rat.den_divInt, if_neg hs]
   exact Nat.le_trans (Nat.div_le_self _ _) h2
theorem zkg (q : Rat) : ((q.den : Int) : Rat) ≠ 0 := vM (by have := q.den_nz; omega)
theorem zaj (q : Rat) : q * ((q.den : Int) : Rat) = (q.num : Rat) := by
 have h := zkg q
 conv => lhs; lhs; rw [<- Rat.num_divInt_den q]
 rw [Rat.divInt_eq_div]
 grind
theorem Sz.zero : Sz 1 0 := ⟨by decide, by decide⟩
theorem Sz.one : Sz 1 1 := ⟨by decide, by decide⟩
theorem Sz.neg {X : Nat} {q : Rat} (h : Sz X q) : Sz X (-q) := ⟨by rw [Rat.neg_num, Int.natAbs_neg]; exact h.1, by rw [Rat.neg_den]; exact h.2⟩
theorem Sz.mul {X Y : Nat} {p q : Rat} (hp : Sz X p) (hq : Sz Y q) : Sz (X * Y) (p * q) := by
 refine zk6 (s := (p.den : Int) * q.den) (M := p.num * q.num) (Int.mul_ne_zero (by have := p.den_nz; omega) (by have := q.den_nz; omega)) ?_ ?_ ?_
 . have h1 := zaj p
   have h2 := zaj q
   push_cast at h1 h2 |-
   rw [<- h1, <- h2]; grind
 . rw [Int.natAbs_mul]; exact Nat.mul_le_mul hp.1 hq.1
 . rw [Int.natAbs_mul]; exact Nat.mul_le_mul (by simpa using hp.2) (by simpa using hq.2)
theorem Sz.add {X Y : Nat} {p q : Rat} (hp : Sz X p) (hq : Sz Y q) : Sz (2 * (X * Y)) (p + q) := by
 refine zk6 (s := (p.den : Int) * q.den) (M := p.num * q.den + q.num * p.den) (Int.mul_ne_zero (by have := p.den_nz; omega) (by have := q.den_nz; omega)) ?_ ?_ ?_
 . have h1 := zaj p
   have h2 := zaj q
   push_cast at h1 h2 |-
   rw [<- h1, <- h2]; grind
 . have h1 : (p.num * q.den + q.num * p.den).natAbs <= (p.num * q.den).natAbs + (q.num * p.den).natAbs := by omega
   rw [Int.natAbs_mul, Int.natAbs_mul] at h1; have h2 := Nat.mul_le_mul hp.1 (show (q.den : Int).natAbs <= Y by simpa using hq.2); have h3 := Nat.mul_le_mul hq.1 (show (p.den : Int).natAbs <= X by simpa using hp.2); rw [Nat.mul_comm Y X] at h3
   omega
 . rw [Int.natAbs_mul]
   have := Nat.mul_le_mul (show (p.den : Int).natAbs <= X by simpa using hp.2) (show (q.den : Int).natAbs <= Y by simpa using hq.2)
   omega
theorem Sz.short {X e : Nat} {q : Rat} (h : Sz X q) (hX : X < 10 ^ e) (he : 0 < e) : zS e q := ⟨YP (by have := h.1; omega) he, YP (by have := h.2; omega) he⟩
theorem zS.sz {e : Nat} {q : Rat} (h : zS e q) : Sz (10 ^ e) q := ⟨Nat.le_of_lt (ZE h.1), Nat.le_of_lt (ZE h.2)⟩
abbrev Dz (e : Nat) (q : Rat) : Prop := Sz (10 ^ e) q
theorem Dz.add {e f g : Nat} {p q : Rat} (hp : Dz e p) (hq : Dz f q) (hg : e + f + 1 <= g) : Dz g (p + q) := by
 refine (Sz.add hp hq).mono ?_
 have h1 : 10 ^ (e + f + 1) <= 10 ^ g := Nat.pow_le_pow_right (by omega) hg
 rw [Nat.pow_succ, Nat.pow_add] at h1
 omega
theorem Dz.sub {e f g : Nat} {p q : Rat} (hp : Dz e p) (hq : Dz f q) (hg : e + f + 1 <= g) : Dz g (p - q) := by rw [Rat.sub_eq_add_neg]; exact Dz.add hp (Sz.neg hq) hg
theorem Dz.mul {e f g : Nat} {p q : Rat} (hp : Dz e p) (hq : Dz f q) (hg : e + f <= g) : Dz g (p * q) := by
 refine (Sz.mul hp hq).mono ?_
 rw [<- Nat.pow_add]
 exact Nat.pow_le_pow_right (by omega) hg
theorem Dz.more {e f : Nat} {q : Rat} (h : Dz e q) (hf : e <= f) : Dz f q := h.mono (Nat.pow_le_pow_right (by omega) hf)
theorem Dz.short {e f : Nat} {q : Rat} (h : Dz e q) (hf : e < f) : zS f q := Sz.short h (Nat.pow_lt_pow_right (by omega) hf) (by omega)
theorem Dz.zero (e : Nat) : Dz e 0 := Sz.zero.mono (Nat.pow_pos (by omega))
theorem Dz.one (e : Nat) : Dz e 1 := Sz.one.mono (Nat.pow_pos (by omega))
def vK (n : Nat) (f : Nat -> Nat) : Nat := match n with
 | 0 => 1
 | n + 1 => vK n f * f n
theorem znu {n k : Nat} {f : Nat -> Nat} (hk : k < n) : f k ∣ vK n f := by
 induction n with
 | zero => omega
 | succ n ih =>
   unfold vK
   rcases Nat.lt_or_ge k n with h | h
   . exact Nat.dvd_trans (ih h) (Nat.dvd_mul_right _ _)
   . obtain rfl : k = n := by omega
     exact Nat.dvd_mul_left _ _
theorem zel {n : Nat} {f : Nat -> Nat} (h : ∀ k, k < n -> 0 < f k) : 0 < vK n f := by
 induction n with
 | zero => exact Nat.one_pos
 | succ n ih => unfold vK; exact Nat.mul_pos (ih fun k hk => h k (by omega)) (h n (by omega))
theorem zc0 {n X : Nat} {f : Nat -> Nat} (h : ∀ k, k < n -> f k <= X) : vK n f <= X ^ n := by
 induction n with
 | zero => exact Nat.le_refl _
 | succ n ih => unfold vK; rw [Nat.pow_succ]; exact Nat.mul_le_mul (ih fun k hk => h k (by omega)) (h n (by omega))
theorem zua {m e f : Nat} {A : Tab} (h1 : ∀ i, i < m -> ∀ c, c < m -> Dz e (A i c)) (h2 : ∀ i, i < m -> Dz f (A i m)) (hef : e <= f) : zol m A (10 ^ (m * e + 2 * f)) (10 ^ (m * e + f)) := by
 have hden : ∀ q : Rat, 0 < q.den := fun q => Nat.pos_of_ne_zero q.den_nz
 have hs : ∀ i, i < m -> vK (m + 1) (fun c => (A i c).den) <= 10 ^ (m * e + f) := by
  intro i hi
  unfold vK
  rw [Nat.pow_add, Nat.mul_comm m e, Nat.pow_mul]
  exact Nat.mul_le_mul (zc0 fun c hc => (h1 i hi c hc).2) (h2 i hi).2
 refine ⟨fun i c => (A i c).num * ((vK (m + 1) (fun c => (A i c).den) / (A i c).den : Nat) : Int), fun i => (vK (m + 1) (fun c => (A i c).den) : Int), fun i hi => ⟨?_, ?_, fun c hc => ⟨?_, ?_⟩⟩⟩
 . have := zel (n := m + 1) (f := fun c => (A i c).den) (fun c _ => hden _)
   exact Int.natCast_ne_zero.2 (by omega)
 . have := hs i hi
   simpa using this
 . obtain ⟨d, hd⟩ := znu (n := m + 1) (k := c) (f := fun c => (A i c).den) (by omega)
   show A i c * ((((vK (m + 1) (fun c => (A i c).den) : Nat) : Int) : Int) : Rat) = (((A i c).num * ((vK (m + 1) (fun c => (A i c).den) / (A i c).den : Nat) : Int) : Int) : Rat)
   rw [hd, Nat.mul_div_cancel_left _ (hden _)]; have := zaj (A i c)
   push_cast at this |-
   rw [<- this]; grind
 . rw [Int.natAbs_mul]
   have hf : (A i c).num.natAbs <= 10 ^ f := by
    rcases Nat.lt_or_ge c m with h | h
    . exact ((h1 i hi c h).more hef).1
    . obtain rfl : c = m := by omega
      exact (h2 i hi).1
   have hq : (vK (m + 1) (fun c => (A i c).den) / (A i c).den : Nat) <= 10 ^ (m * e + f) := Nat.le_trans (Nat.div_le_self _ _) (hs i hi); have e2 : m * e + 2 * f = f + (m * e + f) := by omega
   rw [e2, Nat.pow_add]; exact Nat.mul_le_mul hf (by rw [Int.natAbs_natCast]; exact hq)
theorem zol.mono {m C S C' S' : Nat} {A : Tab} (h : zol m A C S) (hC : C <= C') (hS : S <= S') : zol m A C' S' := by
 obtain ⟨M, s, h⟩ := h
 exact ⟨M, s, fun i hi => ⟨(h i hi).1, Nat.le_trans (h i hi).2.1 hS, fun c hc => ⟨((h i hi).2.2 c hc).1, Nat.le_trans ((h i hi).2.2 c hc).2 hC⟩⟩⟩
def Xw (m : Nat) (A : Tab) (Z : Nat) : Prop := ∃ X, 2 * X <= Z /\ zol m A X X
theorem Xw.swapped {m k p Z : Nat} {A : Tab} (h : Xw m A Z) (hk : k < m) (hp : p < m) : Xw m (swapped A k p) Z := by
 obtain ⟨X, h1, h2⟩ := h
 exact ⟨X, h1, h2.swapped hk hp⟩
theorem Xw.freed {m k n Z : Nat} {A : Tab} (h : Xw m A Z) (hk : k < m) (h0 : A k k ≠ 0) (hn : n <= m) : Xw m (freed A k n) (Z * Z) := by
 obtain ⟨X, h1, h2⟩ := h
 have hX : 0 < X := by
  obtain ⟨M, s, h3⟩ := h2
  have := (h3 k hk).1
  have := (h3 k hk).2.1
  omega
 refine ⟨2 * X * X, ?_, (h2.freed hk h0 hn).mono (Nat.le_refl _) ?_⟩
 . have := Nat.mul_le_mul h1 h1
   have e : 2 * X * (2 * X) = 2 * (2 * X * X) := by simp only [Nat.mul_assoc, Nat.mul_left_comm X 2 X]
   omega
 . have := Nat.le_mul_of_pos_left X hX
   rw [Nat.mul_assoc]; omega
theorem Xw.sz {m Z : Nat} {A : Tab} (h : Xw m A Z) {i c : Nat} (hi : i < m) (hc : c <= m) : Sz Z (A i c) := by
 obtain ⟨X, h1, M, s, h2⟩ := h
 obtain ⟨a1, a2, a3⟩ := h2 i hi
 exact zk6 a1 (a3 c hc).1 (by have := (a3 c hc).2; omega) (by omega)
theorem Xw.quot {m Z : Nat} {A : Tab} (h : Xw m A Z) {i k : Nat} (hi : i < m) (hk : k < m) {c : Nat} (hc : c <= m) (h0 : A k k ≠ 0) : Sz (Z * Z) (A i c / A k k) := by
 obtain ⟨X, h1, M, s, h2⟩ := h
 obtain ⟨a1, a2, a3⟩ := h2 i hi
 obtain ⟨b1, b2, b3⟩ := h2 k hk
 obtain ⟨b4, b5⟩ := b3 k (by omega)
 have hMk : M k k ≠ 0 := by
  intro e
  rw [e] at b4
  have := vM b1
  have e0 : ((0 : Int) : Rat) = 0 := rfl
  rw [e0] at b4
  grind
 have h3 := vM a1
 have h4 := vM b1
 have h5 := vM hMk
 refine zk6 (s := s i * M k k) (M := M i c * s k) (Int.mul_ne_zero a1 hMk) ?_ ?_ ?_
 . push_cast
   rw [<- (a3 c hc).1, <- b4]; rw [<- b4] at h5
   grind
 . rw [Int.natAbs_mul]; exact Nat.mul_le_mul (by have := (a3 c hc).2; omega) (by omega)
 . rw [Int.natAbs_mul]; exact Nat.mul_le_mul (by omega) (by omega)
theorem Xw.prod {m Z : Nat} {A : Tab} (h : Xw m A Z) {i k : Nat} (hi : i < m) (hk : k < m) {c : Nat} (hc : c <= m) (h0 : A k k ≠ 0) : Sz (Z * Z) (A i k / A k k * A k c) := by
 obtain ⟨X, h1, M, s, h2⟩ := h
 obtain ⟨a1, a2, a3⟩ := h2 i hi
 obtain ⟨b1, b2, b3⟩ := h2 k hk
 obtain ⟨b4, b5⟩ := b3 k (by omega)
 have hMk : M k k ≠ 0 := by
  intro e
  rw [e] at b4
  have := vM b1
  have e0 : ((0 : Int) : Rat) = 0 := rfl
  rw [e0] at b4
  grind
 have h3 := vM a1
 have h4 := vM b1
 have h5 := vM hMk
 refine zk6 (s := s i * M k k) (M := M i k * M k c) (Int.mul_ne_zero a1 hMk) ?_ ?_ ?_
 . push_cast
   rw [<- (a3 k (by omega)).1, <- b4, <- (b3 c hc).1]; rw [<- b4] at h5
   grind
 . rw [Int.natAbs_mul]; exact Nat.mul_le_mul (by have := (a3 k (by omega)).2; omega) (by have := (b3 c hc).2; omega)
 . rw [Int.natAbs_mul]; exact Nat.mul_le_mul (by omega) (by omega)
def Vp (m : Nat) (A0 : Tab) (k : Nat) (A : Tab) (Z : Nat) : Prop := zgz m A /\ zec m k A /\ Xw m A Z /\ ∀ x, xR m A x -> xR m A0 x
theorem Vp.start {m Z : Nat} {A : Tab} (h1 : zgz m A) (h2 : Xw m A Z) : Vp m A 0 A Z := ⟨h1, fun j hj => by omega, h2, fun x h => h⟩
theorem Vp.pivot {m k Z : Nat} {A0 A : Tab} (h : Vp m A0 k A Z) (hk : k < m) : ∃ p, k <= p /\ p < m /\ A p k ≠ 0 := Go.Proofs.YtdecgcdkaaiglaaGreat.pivot h.1 h.2.1 hk
theorem Vp.swapped {m k p Z : Nat} {A0 A : Tab} (h : Vp m A0 k A Z) (hk : k <= p) (hp : p < m) : Vp m A0 k (swapped A k p) Z :=
 ⟨h.1.swapped (by omega) hp, h.2.1.swapped hk hp, h.2.2.1.swapped (by omega) hp, fun x hx => h.2.2.2 x (hx.unswap (by omega) hp)⟩
theorem Vp.freed {m k Z : Nat} {A0 A : Tab} (h : Vp m A0 k A Z) (hk : k < m) (h0 : A k k ≠ 0) : Vp m A0 (k + 1) (freed A k m) (Z * Z) :=
 ⟨h.1.freed hk, h.2.1.freed hk h0, h.2.2.1.freed hk h0 (Nat.le_refl _), fun x hx => h.2.2.2 x (hx.unfree hk)⟩
theorem Vp.done {m Z : Nat} {A0 A : Tab} (h : Vp m A0 m A Z) : xR m A0 (fun c => A c m / A c c) := h.2.2.2 _ h.2.1.solves
def x9 (P : Nat -> Bool) (n : Nat) : List Nat := (List.range n).filter P
def yE (P : Nat -> Bool) (k : Nat) : Nat := (x9 P k).length
theorem ZS (P : Nat -> Bool) (n : Nat) : x9 P (n + 1) = x9 P n ++ (if P n = true then [n] else []) := by
 unfold x9
 rw [List.range_succ, List.filter_append]
 by_cases h : P n = true
 . simp [h]
 . simp [h]
theorem YD (P : Nat -> Bool) (n : Nat) : yE P (n + 1) = yE P n + (if P n = true then 1 else 0) := by
 unfold yE
 rw [ZS, List.length_append]
 by_cases h : P n = true <;> simp [h]
theorem zoo (P : Nat -> Bool) {k n : Nat} (h : k <= n) : yE P k <= yE P n := by
 induction n with
 | zero => obtain rfl : k = 0 := by omega
           exact Nat.le_refl _
 | succ n ih =>
   rcases Nat.lt_or_ge k (n + 1) with h1 | h1
   . have := ih (by omega); rw [YD]; omega
   . obtain rfl : k = n + 1 := by omega
     exact Nat.le_refl _
theorem rank_le (P : Nat -> Bool) (n : Nat) : yE P n <= n := by
 unfold yE x9
 have := List.length_filter_le P (List.range n)
 simpa using this
theorem ZH (P : Nat -> Bool) {k n : Nat} (h : k < n) (hP : P k = true) : yE P k < yE P n := by
 have h1 := zoo P (show k + 1 <= n by omega)
 rw [YD, if_pos hP] at h1
 omega
theorem XC (P : Nat -> Bool) {k n : Nat} (h : k < n) (hP : P k = true) : (x9 P n).getD (yE P k) 0 = k := by
 induction n with
 | zero => omega
 | succ n ih =>
   rw [ZS, List.getD_eq_getElem?_getD]
   rcases Nat.lt_or_ge k n with h1 | h1
   . rw [List.getElem?_append_left (ZH P h1 hP), <- List.getD_eq_getElem?_getD]
     exact ih h1
   . obtain rfl : k = n := by omega
     rw [if_pos hP, show yE P k = (x9 P k).length from rfl, List.getElem?_append_right (Nat.le_refl _)]
     simp
theorem vN (P : Nat -> Bool) {n i : Nat} (hi : i < yE P n) : (x9 P n).getD i 0 < n /\ P ((x9 P n).getD i 0) = true /\ yE P ((x9 P n).getD i 0) = i := by
 induction n with
 | zero => simp [yE, x9] at hi
 | succ n ih =>
   rw [YD] at hi; rw [ZS]
   rcases Nat.lt_or_ge i (yE P n) with h1 | h1
   . obtain ⟨h2, h3, h4⟩ := ih h1
     rw [List.getD_eq_getElem?_getD, List.getElem?_append_left h1, <- List.getD_eq_getElem?_getD]; exact ⟨by omega, h3, h4⟩
   . by_cases hP : P n = true
     . rw [if_pos hP] at hi
       obtain rfl : i = yE P n := by omega
       rw [if_pos hP, List.getD_eq_getElem?_getD, show (x9 P n ++ [n])[yE P n]? = some n by rw [show yE P n = (x9 P n).length from rfl, List.getElem?_append_right (Nat.le_refl _)]; simp]; exact ⟨Nat.lt_succ_self n, hP, rfl⟩
     . rw [if_neg hP] at hi; omega
section
variable {N : Nat} (pf pt : Nat -> Nat) (c : Nat -> Rat) (fx : Nat -> Option Rat) (wl : Nat -> Rat) (asked : Nat -> Bool)
def zo (k : Nat) : Bool := (fx k).isNone && asked k
theorem x8 {k : Nat} : zo fx asked k = true ↔ zvg fx asked k := by
 unfold zo zvg
 cases fx k <;> simp
def xC (k : Nat) : Rat := (fx k).getD 0
def zi5 (x : Nat -> Rat) (k : Nat) : Rat := match fx k with
 | some v => v
 | none => if asked k = true then x (yE (zo fx asked) k) else 0
theorem ZK {x : Nat -> Rat} {k : Nat} (h : zo fx asked k = true) : zi5 fx asked x k = x (yE (zo fx asked) k) := by
 obtain ⟨h1, h2⟩ := (x8 fx asked).1 h
 unfold zi5; rw [h1]; simp [h2]
theorem Vz {x : Nat -> Rat} {k : Nat} (h : ¬ zo fx asked k = true) : zi5 fx asked x k = xC fx k := by
 unfold zi5 xC
 cases hx : fx k with
 | some v => rfl
 | none =>
   have : ¬ asked k = true := fun e => h ((x8 fx asked).2 ⟨hx, e⟩)
   simp [this]
def X8 (m : Nat) (A : Tab) (k o : Nat) (d : Rat) : Tab :=
 if zo fx asked k = true then
  (if zo fx asked o = true then xi (xi A (yE (zo fx asked) k) (yE (zo fx asked) k) d) (yE (zo fx asked) k) (yE (zo fx asked) o) (-d)
   else xi (xi A (yE (zo fx asked) k) (yE (zo fx asked) k) d) (yE (zo fx asked) k) m (d * xC fx o))
 else A
def Zi (N : Nat) : Nat -> Tab
 | 0 => fun i j => if j = yE (zo fx asked) N then -(wl ((x9 (zo fx asked) N).getD i 0)) else 0
 | n + 1 => X8 fx asked (yE (zo fx asked) N) (X8 fx asked (yE (zo fx asked) N) (Zi N n) (pf n) (pt n) (c n)) (pt n) (pf n) (c n)
theorem ze6 {A : Tab} {k o i : Nat} {d : Rat} (x : Nat -> Rat) (hk : k < N) (ho : o < N) (hi : i < yE (zo fx asked) N) :
 lin (yE (zo fx asked) N) (X8 fx asked (yE (zo fx asked) N) A k o d) i x = lin (yE (zo fx asked) N) A i x + (if (x9 (zo fx asked) N).getD i 0 = k then d * (zi5 fx asked x k - zi5 fx asked x o) else 0) := by
 obtain ⟨m1, m2, m3⟩ := vN _ hi
 unfold X8
 by_cases hP : zo fx asked k = true
 . rw [if_pos hP]
   have hrk := ZH _ hk hP
   have e : (i = yE (zo fx asked) k) ↔ ((x9 (zo fx asked) N).getD i 0 = k) := by
    constructor
    . intro h; rw [h]; exact XC _ hk hP
    . intro h; rw [<- h]; exact m3.symm
   by_cases hQ : zo fx asked o = true
   . rw [if_pos hQ]
     have hro := ZH _ ho hQ; rw [XV _ _ (by omega), XV _ _ (by omega), ZK _ _ hP, ZK _ _ hQ, if_neg (show ¬ yE (zo fx asked) k = yE (zo fx asked) N by omega), if_neg (show ¬ yE (zo fx asked) o = yE (zo fx asked) N by omega)]
     by_cases h : i = yE (zo fx asked) k
     . rw [if_pos h, if_pos h, if_pos (e.1 h)]; grind
     . rw [if_neg h, if_neg h, if_neg (fun h2 => h (e.2 h2))]; grind
   . rw [if_neg hQ]
     rw [XV _ _ (Nat.le_refl _), XV _ _ (by omega), ZK _ _ hP, Vz _ _ hQ, if_neg (show ¬ yE (zo fx asked) k = yE (zo fx asked) N by omega), if_pos rfl]
     by_cases h : i = yE (zo fx asked) k
     . rw [if_pos h, if_pos h, if_pos (e.1 h)]; grind
     . rw [if_neg h, if_neg h, if_neg (fun h2 => h (e.2 h2))]; grind
 . rw [if_neg hP, if_neg (fun h => hP (by rw [<- h]; exact m2))]; grind
theorem VX {np : Nat} (hp : Xk N np pf pt c) (x : Nat -> Rat) {i : Nat} (hi : i < yE (zo fx asked) N) : ∀ n, n <= np ->
 lin (yE (zo fx asked) N) (Zi pf pt c fx wl asked N n) i x = vJ n pf pt c (zi5 fx asked x) ((x9 (zo fx asked) N).getD i 0) + wl ((x9 (zo fx asked) N).getD i 0) := by
 intro n
 induction n with
 | zero =>
   intro _; unfold lin Zi; rw [Vy, if_pos rfl]
   have e : yo (yE (zo fx asked) N) (fun j => (if j = yE (zo fx asked) N then -(wl ((x9 (zo fx asked) N).getD i 0)) else 0) * x j) = yo (yE (zo fx asked) N) (fun _ => 0) :=
    zR fun k hk => by rw [if_neg (by omega)]; grind
   rw [e, Yv]; grind
 | succ n ih =>
   intro hn; unfold Zi; rw [ze6 fx asked x (hp.to_lt n (by omega)) (hp.from_lt n (by omega)) hi, ze6 fx asked x (hp.from_lt n (by omega)) (hp.to_lt n (by omega)) hi, ih (by omega), YV]; have h1 : ((x9 (zo fx asked) N).getD i 0 = pf n) ↔ (pf n = (x9 (zo fx asked) N).getD i 0) := ⟨Eq.symm, Eq.symm⟩; have h2 : ((x9 (zo fx asked) N).getD i 0 = pt n) ↔ (pt n = (x9 (zo fx asked) N).getD i 0) := ⟨Eq.symm, Eq.symm⟩; simp only [h1, h2]
   grind
theorem zls {np : Nat} (hp : Xk N np pf pt c) (ht : zwd N np pf pt fx asked) : zgz (yE (zo fx asked) N) (Zi pf pt c fx wl asked N np) := by
 apply zd1
 intro x y h
 have hz := YZ (g := fun j => zi5 fx asked x j - zi5 fx asked y j) (S := fun j => j < N /\ fx j ≠ none) (F := zvg fx asked) hp (fun j hj hf => hj.2 hf.1)
  (fun j hj hf => by
    have : ¬ zo fx asked j = true := fun e => hf ((x8 fx asked).1 e)
    rw [Vz _ _ this, Vz _ _ this]; grind)
  (fun j hj hf => by
    have hf' := (x8 fx asked).2 hf; have hi := ZH _ hj hf'; have := h _ hi; rw [VX pf pt c fx wl asked hp x hi np (Nat.le_refl _), VX pf pt c fx wl asked hp y hi np (Nat.le_refl _), XC _ hj hf'] at this
    rw [za0]; grind) ht (fun j hj => hj.1)
 intro i hi
 obtain ⟨m1, m2, m3⟩ := vN _ hi
 have := hz _ m1
 rw [ZK _ _ m2, ZK _ _ m2, m3] at this
 grind
theorem zox {np : Nat} (hp : Xk N np pf pt c) {x : Nat -> Rat} (hx : xR (yE (zo fx asked) N) (Zi pf pt c fx wl asked N np) x) :
 vV N np pf pt c fx wl asked (zi5 fx asked x) := by
 intro k hk
 cases hf : fx k with
 | some v => simp only; unfold zi5; rw [hf]
 | none =>
   simp only
   by_cases ha : asked k = true
   . rw [if_pos ha]
     have hF := (x8 fx asked).2 ⟨hf, ha⟩; have hi := ZH _ hk hF; have := Y3.1 hx _ hi; rw [VX pf pt c fx wl asked hp x hi np (Nat.le_refl _), XC _ hk hF] at this
     grind
   . rw [if_neg ha]
     unfold zi5; rw [hf]; simp [ha]
def zV (i : Nat) : Nat -> Nat -> Rat
 | 0 => fun _ => 0
 | n + 1 => fun j =>
   if pf n = i then (if j = pt n then zV i n (pt n) - c n else if j = i then zV i n i + c n else zV i n j)
   else if pt n = i then (if j = pf n then zV i n (pf n) - c n else if j = i then zV i n i + c n else zV i n j)
   else zV i n j
def Va (N np : Nat) : Tab := fun i j =>
 if zo fx asked i = true then (if j = N then -(wl i) else zV pf pt c i np j) else (if j = N then xC fx i else if j = i then 1 else 0)
theorem zpy {np : Nat} (hp : Xk N np pf pt c) (x : Nat -> Rat) {i : Nat} (hi : i < N) : ∀ n, n <= np -> yo N (fun j => zV pf pt c i n j * x j) = vJ n pf pt c x i := by
 intro n
 induction n with
 | zero =>
   intro _; rw [Vy]; have e : yo N (fun j => zV pf pt c i 0 j * x j) = yo N (fun _ => 0) := zR fun k _ => by show (0 : Rat) * _ = 0; grind
   rw [e, Yv]
 | succ n ih =>
   intro hn; have hne := hp.ne n (by omega); have hf := hp.from_lt n (by omega); have ht := hp.to_lt n (by omega); rw [YV, <- ih (by omega)]
   by_cases h1 : pf n = i
   . rw [if_pos h1, if_neg (by omega)]
     have e : yo N (fun j => zV pf pt c i (n + 1) j * x j) = yo N (fun j => zV pf pt c i n j * x j + ((if j = pt n then -(c n * x (pt n)) else 0) + (if j = i then c n * x i else 0))) := by
      apply zR
      intro j _
      show (if pf n = i then (if j = pt n then zV pf pt c i n (pt n) - c n else if j = i then zV pf pt c i n i + c n else zV pf pt c i n j)
       else if pt n = i then (if j = pf n then zV pf pt c i n (pf n) - c n else if j = i then zV pf pt c i n i + c n else zV pf pt c i n j)
       else zV pf pt c i n j) * x j = _
      rw [if_pos h1]
      by_cases h2 : j = pt n
      . rw [if_pos h2, if_pos h2, if_neg (by omega), h2]; grind
      . rw [if_neg h2, if_neg h2]
        by_cases h3 : j = i
        . rw [if_pos h3, if_pos h3, h3]; grind
        . rw [if_neg h3, if_neg h3]; grind
     rw [e, YA, YA, vy (j := pt n) ht (fun k _ hk => if_neg hk), vy (j := i) hi (fun k _ hk => if_neg hk), if_pos rfl, if_pos rfl, h1]
     grind
   . rw [if_neg h1]
     by_cases h1' : pt n = i
     . rw [if_pos h1']
       have e : yo N (fun j => zV pf pt c i (n + 1) j * x j) = yo N (fun j => zV pf pt c i n j * x j + ((if j = pf n then -(c n * x (pf n)) else 0) + (if j = i then c n * x i else 0))) := by
        apply zR
        intro j _
        show (if pf n = i then (if j = pt n then zV pf pt c i n (pt n) - c n else if j = i then zV pf pt c i n i + c n else zV pf pt c i n j)
         else if pt n = i then (if j = pf n then zV pf pt c i n (pf n) - c n else if j = i then zV pf pt c i n i + c n else zV pf pt c i n j)
         else zV pf pt c i n j) * x j = _
        rw [if_neg h1, if_pos h1']
        by_cases h2 : j = pf n
        . rw [if_pos h2, if_pos h2, if_neg (by omega), h2]; grind
        . rw [if_neg h2, if_neg h2]
          by_cases h3 : j = i
          . rw [if_pos h3, if_pos h3, h3]; grind
          . rw [if_neg h3, if_neg h3]; grind
       rw [e, YA, YA, vy (j := pf n) hf (fun k _ hk => if_neg hk), vy (j := i) hi (fun k _ hk => if_neg hk), if_pos rfl, if_pos rfl, h1']
       grind
     . rw [if_neg h1']
       have e : yo N (fun j => zV pf pt c i (n + 1) j * x j) = yo N (fun j => zV pf pt c i n j * x j) := by
        apply zR
        intro j _
        show (if pf n = i then (if j = pt n then zV pf pt c i n (pt n) - c n else if j = i then zV pf pt c i n i + c n else zV pf pt c i n j)
         else if pt n = i then (if j = pf n then zV pf pt c i n (pf n) - c n else if j = i then zV pf pt c i n i + c n else zV pf pt c i n j)
         else zV pf pt c i n j) * x j = _
        rw [if_neg h1, if_neg h1']
       rw [e]; grind
theorem YL {np : Nat} (hp : Xk N np pf pt c) (x : Nat -> Rat) {i : Nat} (hi : i < N) :
 lin N (Va pf pt c fx wl asked N np) i x = if zo fx asked i = true then vJ np pf pt c x i + wl i else x i - xC fx i := by
 unfold lin Va
 by_cases h : zo fx asked i = true
 . simp only [h, if_true]
   have e : yo N (fun j => (if j = N then -(wl i) else zV pf pt c i np j) * x j) = yo N (fun j => zV pf pt c i np j * x j) := zR fun k hk => by rw [if_neg (by omega)]
   rw [e, zpy pf pt c hp x hi np (Nat.le_refl _)]; grind
 . rw [if_neg h]
   have e : yo N (fun j => (if zo fx asked i = true then (if j = N then -(wl i) else zV pf pt c i np j) else (if j = N then xC fx i else if j = i then 1 else 0)) * x j) = yo N (fun j => if j = i then x i else 0) := by
    apply zR
    intro k hk; rw [if_neg h, if_neg (show ¬ k = N by omega)]
    by_cases h2 : k = i
    . rw [if_pos h2, if_pos h2, h2]; grind
    . rw [if_neg h2, if_neg h2]; grind
   rw [e, vy (j := i) hi (fun k hk hne => if_neg hne), if_pos rfl, if_neg h, if_pos rfl]
theorem zs7 {np : Nat} (hp : Xk N np pf pt c) (ht : zwd N np pf pt fx asked) : zgz N (Va pf pt c fx wl asked N np) := by
 apply zd1
 intro x y h
 have hz := YZ (g := fun j => x j - y j) (S := fun j => j < N /\ fx j ≠ none) (F := zvg fx asked) hp (fun j hj hf => hj.2 hf.1)
  (fun j hj hf => by
    have h0 : ¬ zo fx asked j = true := fun e => hf ((x8 fx asked).1 e)
    have := h j hj; rw [YL pf pt c fx wl asked hp x hj, YL pf pt c fx wl asked hp y hj, if_neg h0, if_neg h0] at this
    grind)
  (fun j hj hf => by
    have h0 := (x8 fx asked).2 hf; have := h j hj; rw [YL pf pt c fx wl asked hp x hj, YL pf pt c fx wl asked hp y hj, if_pos h0, if_pos h0] at this
    rw [za0]; grind) ht (fun j hj => hj.1)
 intro i hi
 have := hz i hi
 grind
theorem zo6 {np : Nat} (hp : Xk N np pf pt c) {x : Nat -> Rat} (hx : xR N (Va pf pt c fx wl asked N np) x) : vV N np pf pt c fx wl asked x := by
 intro k hk
 have h := Y3.1 hx k hk
 rw [YL pf pt c fx wl asked hp x hk] at h
 by_cases hF : zo fx asked k = true
 . rw [if_pos hF] at h
   obtain ⟨h1, h2⟩ := (x8 fx asked).1 hF; rw [h1]; simp only; rw [if_pos h2]; grind
 . rw [if_neg hF] at h
   unfold xC at h
   cases hf : fx k with
   | some v => rw [hf] at h; simp at h; simp only; grind
   | none =>
     rw [hf] at h; simp at h; have : ¬ asked k = true := fun e => hF ((x8 fx asked).2 ⟨hf, e⟩)
     simp only [this]; simp; grind
theorem zfs {np : Nat} (hp : Xk N np pf pt c) (hc : ∀ i, i < np -> Dz 12 (c i)) (i : Nat) : ∀ n, n <= np -> ∀ j, Dz (13 * n) (zV pf pt c i n j) := by
 intro n
 induction n with
 | zero => intro _ j; exact Dz.zero _
 | succ n ih =>
   intro hn j; have h := ih (by omega); unfold zV
   split
   . split
     . exact Dz.sub (h _) (hc n (by omega)) (by omega)
     . split
       . exact Dz.add (h _) (hc n (by omega)) (by omega)
       . exact (h j).more (by omega)
   . split
     . split
       . exact Dz.sub (h _) (hc n (by omega)) (by omega)
       . split
         . exact Dz.add (h _) (hc n (by omega)) (by omega)
         . exact (h j).more (by omega)
     . exact (h j).more (by omega)
end
theorem zsd {m e f : Nat} {A : Tab} (h1 : ∀ i, i < m -> ∀ c, c < m -> Dz e (A i c)) (h2 : ∀ i, i < m -> Dz f (A i m)) (hef : e <= f) : Xw m A (10 ^ (m * e + 2 * f + 1)) := by
 refine ⟨10 ^ (m * e + 2 * f), ?_, (zua h1 h2 hef).mono (Nat.le_refl _) (Nat.pow_le_pow_right (by omega) (by omega))⟩
 rw [Nat.pow_succ]; omega
def xT (s : Int) (B : Nat) (q : Rat) : Prop := ∃ z : Int, q * (s : Rat) = (z : Rat) /\ z.natAbs <= B
theorem xT.mono {s : Int} {B C : Nat} {q : Rat} (h : xT s B q) (hBC : B <= C) : xT s C q := by
 obtain ⟨z, h1, h2⟩ := h
 exact ⟨z, h1, by omega⟩
theorem xT.zero (s : Int) (B : Nat) : xT s B 0 := ⟨0, by rw [Rat.zero_mul]; rfl, by simp⟩
theorem xT.neg {s : Int} {B : Nat} {q : Rat} (h : xT s B q) : xT s B (-q) := by
 obtain ⟨z, h1, h2⟩ := h
 exact ⟨-z, by push_cast; rw [<- h1]; grind, by omega⟩
theorem xT.add {s : Int} {B C : Nat} {p q : Rat} (hp : xT s B p) (hq : xT s C q) : xT s (B + C) (p + q) := by
 obtain ⟨z, h1, h2⟩ := hp
 obtain ⟨y, h3, h4⟩ := hq
 exact ⟨z + y, by push_cast; rw [<- h1, <- h3]; grind, by omega⟩
theorem xT.sub {s : Int} {B C : Nat} {p q : Rat} (hp : xT s B p) (hq : xT s C q) : xT s (B + C) (p - q) := by rw [Rat.sub_eq_add_neg]; exact hp.add hq.neg
theorem xT.mul {s t : Int} {B C : Nat} {p q : Rat} (hp : xT s B p) (hq : xT t C q) : xT (s * t) (B * C) (p * q) := by
 obtain ⟨z, h1, h2⟩ := hp
 obtain ⟨y, h3, h4⟩ := hq
 refine ⟨z * y, by push_cast; rw [<- h1, <- h3]; grind, ?_⟩
 rw [Int.natAbs_mul]; exact Nat.mul_le_mul h2 h4
theorem xT.scale {s : Int} {B : Nat} {q : Rat} (h : xT s B q) (t : Int) : xT (s * t) (B * t.natAbs) q := by
 obtain ⟨z, h1, h2⟩ := h
 refine ⟨z * t, by push_cast; rw [<- h1]; grind, ?_⟩
 rw [Int.natAbs_mul]; exact Nat.mul_le_mul h2 (Nat.le_refl _)
theorem xT.scale' {s : Int} {B : Nat} {q : Rat} (h : xT s B q) (t : Int) : xT (t * s) (t.natAbs * B) q := by
 rw [Int.mul_comm, Nat.mul_comm]; exact h.scale t
theorem xT.sum {s : Int} {B n : Nat} {f : Nat -> Rat} (h : ∀ k, k < n -> xT s B (f k)) : xT s (n * B) (yo n f) := by
 induction n with
 | zero => exact (xT.zero s _)
 | succ n ih => rw [yg, Nat.succ_mul]; exact (ih fun k hk => h k (by omega)).add (h n (by omega))
theorem xT.sz {s : Int} {B X : Nat} {q : Rat} (h : xT s B q) (hs : s ≠ 0) (h1 : B <= X) (h2 : s.natAbs <= X) : Sz X q := by
 obtain ⟨z, h3, h4⟩ := h
 exact zk6 hs h3 (by omega) h2
theorem xT.den (q : Rat) : xT (q.den : Int) q.num.natAbs q := ⟨q.num, zaj q, Nat.le_refl _⟩
theorem xT.prod {n k : Nat} {q : Nat -> Rat} {e : Nat} (h : ∀ k, k < n -> Dz e (q k)) (hk : k < n) : xT (vK n (fun k => (q k).den) : Int) (10 ^ (e * n)) (q k) := by
 induction n with
 | zero => omega
 | succ n ih =>
   unfold vK; rw [Nat.mul_succ, Nat.pow_add]
   push_cast
   rcases Nat.lt_or_ge k n with h1 | h1
   . refine ((ih (fun k hk => h k (by omega)) h1).scale _).mono ?_
     exact Nat.mul_le_mul (Nat.le_refl _) (by rw [Int.natAbs_natCast]; exact (h n (by omega)).2)
   . obtain rfl : k = n := by omega
     refine ((xT.den (q k)).scale' _).mono ?_; refine Nat.mul_le_mul ?_ (h k (by omega)).1; rw [Int.natAbs_natCast, Nat.pow_mul]; exact zc0 fun j hj => (h j (by omega)).2
theorem Vn {n e : Nat} {q : Nat -> Rat} (h : ∀ k, k < n -> Dz e (q k)) : vK n (fun k => (q k).den) <= 10 ^ (e * n) /\ 0 < vK n (fun k => (q k).den) := by
 refine ⟨?_, zel fun k _ => Nat.pos_of_ne_zero (q k).den_nz⟩
 rw [Nat.pow_mul]
 exact zc0 fun j hj => (h j hj).2
section
variable {N : Nat} (pf pt : Nat -> Nat) (c : Nat -> Rat) (fx : Nat -> Option Rat) (wl : Nat -> Rat) (asked : Nat -> Bool)
theorem Zx {A : Tab} {i' c' i j : Nat} {d : Rat} {s : Int} {B b : Nat} (h : ∀ j, xT s B (A i j)) (hd : xT s b d) : xT s (B + b) (xi A i' c' d i j) := by
 unfold xi
 by_cases h1 : i = i' /\ j = c'
 . rw [if_pos h1, <- h1.1]; exact (h _).add hd
 . rw [if_neg h1]; exact (h j).mono (by omega)
theorem zae {A : Tab} {m k o i : Nat} {d : Rat} {s : Int} {B b : Nat} (h : ∀ j, xT s B (A i j)) (hd : xT s b d) (ho : xT s b (d * xC fx o)) (j : Nat) :
 xT s (B + b + b) (X8 fx asked m A k o d i j) := by
 unfold X8
 split
 . split
   . exact Zx (fun j => Zx h hd) hd.neg
   . exact Zx (fun j => Zx h hd) ho
 . exact (h j).mono (by omega)
theorem zho {np b : Nat} {s : Nat -> Int} (hp : Xk N np pf pt c) (hc : ∀ i, i < yE (zo fx asked) N -> ∀ j, j < np -> xT (s i) b (c j)) (ho : ∀ i, i < yE (zo fx asked) N -> ∀ j, j < np -> ∀ k, k < N -> xT (s i) b (c j * xC fx k))
 (hw : ∀ i, i < yE (zo fx asked) N -> xT (s i) b (wl ((x9 (zo fx asked) N).getD i 0))) {i : Nat} (hi : i < yE (zo fx asked) N) : ∀ n, n <= np -> ∀ j, xT (s i) (b + 4 * n * b) (Zi pf pt c fx wl asked N n i j) := by
 intro n
 induction n with
 | zero =>
   intro _ j; unfold Zi
   split
   . exact (hw i hi).neg.mono (by omega)
   . exact xT.zero _ _
 | succ n ih =>
   intro hn j; unfold Zi; refine (zae fx asked (zae fx asked (ih (by omega)) (hc i hi n (by omega)) (ho i hi n (by omega) _ (hp.to_lt n (by omega)))) (hc i hi n (by omega)) (ho i hi n (by omega) _ (hp.from_lt n (by omega))) j).mono ?_; rw [Nat.mul_add, Nat.add_mul]; omega
theorem zo5 {np b X : Nat} {s : Nat -> Int} (hp : Xk N np pf pt c) (hc : ∀ i, i < yE (zo fx asked) N -> ∀ j, j < np -> xT (s i) b (c j)) (ho : ∀ i, i < yE (zo fx asked) N -> ∀ j, j < np -> ∀ k, k < N -> xT (s i) b (c j * xC fx k))
 (hw : ∀ i, i < yE (zo fx asked) N -> xT (s i) b (wl ((x9 (zo fx asked) N).getD i 0))) (hs : ∀ i, i < yE (zo fx asked) N -> s i ≠ 0 /\ (s i).natAbs <= X) (hX : b + 4 * np * b <= X) :
 Xw (yE (zo fx asked) N) (Zi pf pt c fx wl asked N np) (2 * X) := by
 refine ⟨X, Nat.le_refl _, ?_⟩
 have h : ∀ i j : Nat, ∃ z : Int, i < yE (zo fx asked) N -> (Zi pf pt c fx wl asked N np i j * (s i : Rat) = (z : Rat) /\ z.natAbs <= X) := by
  intro i j
  by_cases hi : i < yE (zo fx asked) N
  . obtain ⟨z, h1, h2⟩ := zho pf pt c fx wl asked hp hc ho hw (i := i) hi np (Nat.le_refl _) j
    exact ⟨z, fun _ => ⟨h1, by omega⟩⟩
  . exact ⟨0, fun h => absurd h hi⟩
 exact ⟨fun i j => Classical.choose (h i j), s, fun i hi => ⟨(hs i hi).1, (hs i hi).2, fun j hj => Classical.choose_spec (h i j) hi⟩⟩
end
theorem Xw.diag {m Z : Nat} {A : Tab} (h : Xw m A Z) {i : Nat} (hi : i < m) (h0 : A i i ≠ 0) : ∃ t : Int, t ≠ 0 /\ t.natAbs <= Z /\ xT t Z (A i m / A i i) := by
 obtain ⟨X, h1, M, s, h2⟩ := h
 obtain ⟨a1, a2, a3⟩ := h2 i hi
 obtain ⟨b1, b2⟩ := a3 i (by omega)
 obtain ⟨c1, c2⟩ := a3 m (Nat.le_refl _)
 have h3 := vM a1
 have hMk : M i i ≠ 0 := by
  intro e
  rw [e] at b1
  have e0 : ((0 : Int) : Rat) = 0 := rfl
  rw [e0] at b1
  grind
 have h5 := vM hMk
 refine ⟨M i i, hMk, by omega, M i m, ?_, by omega⟩
 rw [<- b1, <- c1]
 rw [<- b1] at h5
 grind
def Y5 (n : Nat) (h : Nat -> Rat) (E : Nat) : Prop := ∃ T : Int, T ≠ 0 /\ T.natAbs <= 10 ^ E /\ ∀ k, k < n -> xT T (10 ^ E) (h k)
theorem Y5.get {n E : Nat} {h : Nat -> Rat} (hc : Y5 n h E) {k : Nat} (hk : k < n) : Dz E (h k) := by
 obtain ⟨T, h1, h2, h3⟩ := hc
 exact (h3 k hk).sz h1 (Nat.le_refl _) h2
theorem zod {N E F : Nat} {fx : Nat -> Option Rat} {asked : Nat -> Bool} {x : Nat -> Rat} (hx : Y5 (yE (zo fx asked) N) x E) (hf : ∀ k, k < N -> Dz F (xC fx k)) : Y5 N (zi5 fx asked x) (E + F * N) := by
 obtain ⟨T, h1, h2, h3⟩ := hx
 obtain ⟨d1, d2⟩ := Vn hf
 refine ⟨T * (vK N (fun k => (xC fx k).den) : Int), Int.mul_ne_zero h1 (by omega), ?_, fun k hk => ?_⟩
 . rw [Int.natAbs_mul, Nat.pow_add]; exact Nat.mul_le_mul h2 (by rw [Int.natAbs_natCast]; exact d1)
 . rw [Nat.pow_add]
   by_cases hF : zo fx asked k = true
   . rw [ZK _ _ hF]
     exact ((h3 _ (ZH _ hk hF)).scale _).mono (Nat.mul_le_mul (Nat.le_refl _) (by rw [Int.natAbs_natCast]; exact d1))
   . rw [Vz _ _ hF]
     exact ((xT.prod hf hk).scale' T).mono (Nat.mul_le_mul h2 (Nat.le_refl _))
end Go.Proofs.YtdecgcdkaaiglaaGreat
