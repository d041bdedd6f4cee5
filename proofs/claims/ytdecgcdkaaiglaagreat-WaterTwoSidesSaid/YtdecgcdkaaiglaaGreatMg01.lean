/- Plain law: numbers as lists of digits, least digit first, to a base. · Plain law: one digit of a long division, guessed from the highest digits (no program in sight). · Plain law: the steps of sum, difference, product, short division and shift of digits. · Plain law: numbers as decimal text. · Plain law: digits that may be below 0, and how they are brought back; the steps of the reference's sizes. · Plain law: exact numbers as text. · Plain law: what a text says as a number, way by way. · Plain law: what a text says as a number, the reference's way. · Plain law: linear equations brought to a diagonal; no program in sight. · Plain law: the heads of a net; no program in sight. · Plain law: how great numbers become, and the rows of a net's equations; no program in sight. · Plain law: the equations of a net, as the program and the reference lay them; no program in sight. · Plain: nets and what may be of them; no program in sight. · Plain: marked nodes, and what pipes join to them; no program in sight. · Plain: the error of a net, stage by stage; no program in sight. · Plain law: bounds for the heads of a net; no program in sight. · Plain law: the conductance of the whole between two nodes: it is the least energy of heads, and one over the least of unit flows; no program in sight. -/
import Init.Data.List.Lemmas
set_option linter.unusedVariables false
set_option linter.unusedSimpArgs false
namespace Go.Proofs.YtdecgcdkaaiglaaGreat
/-- The number that digits say, the least first. -/
def val (β : Nat) : List Nat → Nat
  | [] => 0
  | d :: ds => d + β * val β ds
/-- Every digit is below the base. -/
def Small (β : Nat) (ds : List Nat) : Prop := ∀ d ∈ ds, d < β
/-- The greatest digit is not 0. -/
def Canon (β : Nat) (ds : List Nat) : Prop := Small β ds ∧ ds.getLast? ≠ some 0
theorem val_nil (β : Nat) : val β [] = 0 := rfl
theorem val_cons (β d : Nat) (ds : List Nat) : val β (d :: ds) = d + β * val β ds := rfl
theorem val_one (β d : Nat) : val β [d] = d := by simp [val]
theorem val_append (β : Nat) (a b : List Nat) : val β (a ++ b) = val β a + β ^ a.length * val β b := by
  induction a with
  | nil => simp [val]
  | cons d a ih => simp only [List.cons_append, val_cons, ih, List.length_cons, Nat.pow_succ, Nat.mul_add, Nat.add_assoc]; rw [Nat.mul_comm (β ^ a.length) β, Nat.mul_assoc]
theorem val_snoc (β : Nat) (a : List Nat) (d : Nat) : val β (a ++ [d]) = val β a + β ^ a.length * d := by rw [val_append, val_one]
theorem val_replicate (β n : Nat) : val β (List.replicate n 0) = 0 := by
  induction n with
  | zero => rfl
  | succ n ih => rw [List.replicate_succ, val_cons, ih]; simp
theorem Small.nil (β : Nat) : Small β [] := fun _ h => by cases h
theorem Small.append {β : Nat} {a b : List Nat} (ha : Small β a) (hb : Small β b) : Small β (a ++ b) := fun d h => by
  rcases List.mem_append.1 h with h | h
  · exact ha d h
  · exact hb d h
theorem Small.left {β : Nat} {a b : List Nat} (h : Small β (a ++ b)) : Small β a := fun d hd => h d (List.mem_append_left _ hd)
theorem Small.right {β : Nat} {a b : List Nat} (h : Small β (a ++ b)) : Small β b := fun d hd => h d (List.mem_append_right _ hd)
theorem Small.cons {β d : Nat} {a : List Nat} (hd : d < β) (ha : Small β a) : Small β (d :: a) := fun x h => by
  rcases List.mem_cons.1 h with h | h
  · omega
  · exact ha x h
theorem Small.tail {β d : Nat} {a : List Nat} (h : Small β (d :: a)) : Small β a := fun x hx => h x (List.mem_cons_of_mem _ hx)
theorem Small.head {β d : Nat} {a : List Nat} (h : Small β (d :: a)) : d < β := h d List.mem_cons_self
theorem Small.take {β : Nat} {a : List Nat} (h : Small β a) (k : Nat) : Small β (a.take k) := fun d hd => h d (List.mem_of_mem_take hd)
theorem Small.drop {β : Nat} {a : List Nat} (h : Small β a) (k : Nat) : Small β (a.drop k) := fun d hd => h d (List.mem_of_mem_drop hd)
theorem Small.getD {β : Nat} {a : List Nat} (h : Small β a) (hβ : 0 < β) (k : Nat) : a.getD k 0 < β := by
  rw [List.getD_eq_getElem?_getD]
  by_cases hk : k < a.length
  · rw [List.getElem?_eq_getElem hk]; exact h _ (List.getElem_mem hk)
  · rw [List.getElem?_eq_none (by omega)]; exact hβ
theorem Small.get {β : Nat} {a : List Nat} (h : Small β a) (k : Nat) (hk : k < a.length) : a[k] < β := h _ (List.getElem_mem hk)
theorem Small.replicate {β : Nat} (hβ : 0 < β) (n : Nat) : Small β (List.replicate n 0) := fun d hd => by rw [(List.mem_replicate.1 hd).2]; exact hβ
theorem Small.set {β : Nat} {a : List Nat} (h : Small β a) (k d : Nat) (hd : d < β) : Small β (a.set k d) := fun x hx => by
  rcases List.mem_or_eq_of_mem_set hx with hx | hx
  · exact h x hx
  · omega
theorem val_lt {β : Nat} {ds : List Nat} (h : Small β ds) : val β ds < β ^ ds.length := by
  induction ds with
  | nil => simp [val]
  | cons d ds ih =>
    have h1 := ih h.tail
    have h2 := h.head
    rw [val_cons, List.length_cons, Nat.pow_succ]
    have h3 : β * (val β ds + 1) ≤ β * β ^ ds.length := Nat.mul_le_mul_left _ h1
    rw [Nat.mul_add, Nat.mul_one] at h3
    rw [Nat.mul_comm (β ^ ds.length) β]
    omega
theorem val_take_drop (β : Nat) (ds : List Nat) (k : Nat) (hk : k ≤ ds.length) : val β ds = val β (ds.take k) + β ^ k * val β (ds.drop k) := by
  conv => lhs; rw [← List.take_append_drop k ds, val_append, List.length_take, Nat.min_eq_left hk]
theorem take_snoc {α : Type} (ds : List α) (k : Nat) (hk : k < ds.length) : ds.take (k + 1) = ds.take k ++ [ds[k]] := by
  rw [List.take_succ_eq_append_getElem hk]
theorem val_take_succ (β : Nat) (ds : List Nat) (k : Nat) (hk : k < ds.length) : val β (ds.take (k + 1)) = val β (ds.take k) + β ^ k * ds[k] := by
  rw [take_snoc ds k hk, val_snoc, List.length_take, Nat.min_eq_left (by omega)]
theorem val_drop (β : Nat) (ds : List Nat) (k : Nat) (hk : k < ds.length) : val β (ds.drop k) = ds[k] + β * val β (ds.drop (k + 1)) := by
  rw [List.drop_eq_getElem_cons hk, val_cons]
theorem Canon.nil (β : Nat) : Canon β [] := ⟨Small.nil β, by simp⟩
theorem Canon.last {β : Nat} {ds : List Nat} (h : Canon β ds) (hne : ds ≠ []) : ds[ds.length - 1]'(by have := List.length_pos_iff.2 hne; omega) ≠ 0 := by
  intro h0
  apply h.2
  rw [List.getLast?_eq_getElem?, List.getElem?_eq_getElem (by have := List.length_pos_iff.2 hne; omega), h0]
theorem Canon.mk_ {β : Nat} {ds : List Nat} (h : Small β ds) (hl : ∀ hne : 0 < ds.length, ds[ds.length - 1] ≠ 0) : Canon β ds := by
  refine ⟨h, ?_⟩
  intro h0
  rw [List.getLast?_eq_getElem?] at h0
  obtain ⟨hlt, e⟩ := List.getElem?_eq_some_iff.1 h0
  exact hl (by omega) e
theorem Canon.ge {β : Nat} {ds : List Nat} (h : Canon β ds) (hne : ds ≠ []) : β ^ (ds.length - 1) ≤ val β ds := by
  have hp := List.length_pos_iff.2 hne
  have hl := h.last hne
  have e : val β ds = val β (ds.take (ds.length - 1)) + β ^ (ds.length - 1) * ds[ds.length - 1] := by
    rw [← val_take_succ β ds (ds.length - 1) (by omega), show ds.length - 1 + 1 = ds.length by omega, List.take_length]
  rw [e]
  have : β ^ (ds.length - 1) * 1 ≤ β ^ (ds.length - 1) * ds[ds.length - 1] := Nat.mul_le_mul_left _ (by omega)
  omega
theorem Canon.zero_iff {β : Nat} {ds : List Nat} (hβ : 0 < β) (h : Canon β ds) : val β ds = 0 ↔ ds = [] := by
  constructor
  · intro h0
    by_cases hne : ds = []
    · exact hne
    · have := h.ge hne
      have := Nat.pow_pos (n := ds.length - 1) hβ
      omega
  · rintro rfl; rfl
theorem Canon.lt_of_length {β : Nat} {a b : List Nat} (hβ : 0 < β) (ha : Small β a) (hb : Canon β b) (h : a.length < b.length) : val β a < val β b := by
  have h1 := val_lt ha
  have h2 := hb.ge (by intro e; subst e; simp at h)
  have h3 : β ^ a.length ≤ β ^ (b.length - 1) := Nat.pow_le_pow_right hβ (by omega)
  omega
theorem Canon.length_le {β : Nat} {a b : List Nat} (hβ : 0 < β) (ha : Canon β a) (hb : Canon β b) (h : val β a ≤ val β b) : a.length ≤ b.length := by
  rcases Nat.lt_or_ge b.length a.length with h1 | h1
  · have := Canon.lt_of_length hβ hb.1 ha h1; omega
  · exact h1
theorem Canon.length_lt_pow {β : Nat} {a : List Nat} {k : Nat} (hβ : 1 < β) (ha : Canon β a) (h : val β a < β ^ k) : a.length ≤ k := by
  rcases Nat.lt_or_ge k a.length with h1 | h1
  · have h2 := ha.ge (by intro e; subst e; simp at h1)
    have h3 : β ^ k ≤ β ^ (a.length - 1) := Nat.pow_le_pow_right (by omega) (by omega)
    omega
  · exact h1
theorem val_inj {β : Nat} {a b : List Nat} (hl : a.length = b.length) (ha : Small β a) (hb : Small β b) (h : val β a = val β b) : a = b := by
  induction a generalizing b with
  | nil => exact (List.eq_nil_of_length_eq_zero hl.symm).symm
  | cons d a ih =>
    cases b with
    | nil => simp at hl
    | cons c b =>
      rw [val_cons, val_cons] at h
      have h1 := ha.head
      have h2 := hb.head
      have e1 : d = c := by
        have q1 : (d + β * val β a) % β = d := by rw [Nat.add_mul_mod_self_left, Nat.mod_eq_of_lt h1]
        have q2 : (c + β * val β b) % β = c := by rw [Nat.add_mul_mod_self_left, Nat.mod_eq_of_lt h2]
        rw [← q1, ← q2, h]
      subst e1
      have e2 : val β a = val β b := by
        have : β * val β a = β * val β b := by omega
        exact Nat.eq_of_mul_eq_mul_left (by omega) this
      rw [ih (by simpa using hl) ha.tail hb.tail e2]
theorem Canon.inj {β : Nat} {a b : List Nat} (hβ : 0 < β) (ha : Canon β a) (hb : Canon β b) (h : val β a = val β b) : a = b :=
  val_inj (Nat.le_antisymm (ha.length_le hβ hb (by omega)) (hb.length_le hβ ha (by omega))) ha.1 hb.1 h
/-- The first digit from above that differs decides. -/
theorem val_lt_at {β : Nat} {a b : List Nat} (hl : a.length = b.length) (ha : Small β a) (k : Nat) (hk : k < a.length)
    (hsame : ∀ j (h1 : j < a.length) (h2 : j < b.length), k < j → a[j] = b[j]) (hlt : a[k] < b[k]'(by omega)) : val β a < val β b := by
  have e1 := val_take_drop β a k (by omega)
  have e2 := val_take_drop β b k (by omega)
  rw [val_drop β a k hk] at e1
  rw [val_drop β b k (by omega)] at e2
  have e3 : a.drop (k + 1) = b.drop (k + 1) := by
    apply List.ext_getElem (by simp [hl])
    intro i h1 h2
    rw [List.getElem_drop, List.getElem_drop]
    exact hsame _ _ _ (by omega)
  rw [e3] at e1
  have h1 : val β (a.take k) < β ^ k := by
    have := val_lt (ha.take k)
    rwa [List.length_take, Nat.min_eq_left (by omega)] at this
  have h2 : β ^ k * (a[k] + β * val β (b.drop (k + 1)) + 1) ≤ β ^ k * (b[k]'(by omega) + β * val β (b.drop (k + 1))) := Nat.mul_le_mul_left _ (by omega)
  rw [Nat.mul_add _ _ 1, Nat.mul_one] at h2
  omega
/-- The digits of a number. -/
def digs (β : Nat) (n : Nat) : List Nat := if _h : β ≤ 1 ∨ n = 0 then [] else (n % β) :: digs β (n / β)
termination_by n
decreasing_by exact Nat.div_lt_self (by omega) (by omega)
theorem digs_zero (β : Nat) : digs β 0 = [] := by rw [digs]; simp
theorem digs_pos {β n : Nat} (hβ : 1 < β) (hn : 0 < n) : digs β n = (n % β) :: digs β (n / β) := by rw [digs]; rw [dif_neg (by omega)]
theorem digs_spec {β : Nat} (hβ : 1 < β) (n : Nat) : Canon β (digs β n) ∧ val β (digs β n) = n := by
  induction n using Nat.strongRecOn with
  | _ n ih =>
    by_cases hn : n = 0
    · subst hn; rw [digs_zero]; exact ⟨Canon.nil β, rfl⟩
    · rw [digs_pos hβ (by omega)]
      obtain ⟨h1, h2⟩ := ih (n / β) (Nat.div_lt_self (by omega) hβ)
      refine ⟨⟨Small.cons (Nat.mod_lt _ (by omega)) h1.1, ?_⟩, ?_⟩
      · by_cases hd : digs β (n / β) = []
        · rw [hd] at h2 ⊢
          have h3 : n / β = 0 := h2.symm
          have h4 : n < β := by
            rcases Nat.lt_or_ge n β with h | h
            · exact h
            · have := Nat.div_pos h (by omega); omega
          rw [Nat.mod_eq_of_lt h4]
          simpa using hn
        · rw [List.getLast?_cons_of_ne_nil hd]
          exact h1.2
      · rw [val_cons, h2, Nat.mod_add_div]
theorem Canon.digs {β : Nat} {ds : List Nat} (hβ : 1 < β) (h : Canon β ds) : digs β (val β ds) = ds :=
  Canon.inj (by omega) (digs_spec hβ _).1 h (digs_spec hβ _).2
/-- How many digits a number has. -/
def len (β n : Nat) : Nat := (digs β n).length
theorem Canon.length_eq {β : Nat} {ds : List Nat} (hβ : 1 < β) (h : Canon β ds) : ds.length = len β (val β ds) := by rw [len, h.digs hβ]
theorem lt_pow_len {β : Nat} (hβ : 1 < β) (n : Nat) : n < β ^ len β n := by
  have h := digs_spec hβ n
  have := val_lt h.1.1
  rwa [h.2] at this
theorem len_le_of_lt {β n k : Nat} (hβ : 1 < β) (h : n < β ^ k) : len β n ≤ k := by
  have hs := digs_spec hβ n
  exact hs.1.length_lt_pow hβ (by rw [hs.2]; exact h)
theorem len_mono {β m n : Nat} (hβ : 1 < β) (h : m ≤ n) : len β m ≤ len β n := len_le_of_lt hβ (Nat.lt_of_le_of_lt h (lt_pow_len hβ n))
theorem len_mul {β : Nat} (hβ : 1 < β) (m n : Nat) : len β (m * n) ≤ len β m + len β n := by
  apply len_le_of_lt hβ
  rw [Nat.pow_add]
  exact Nat.mul_lt_mul'' (lt_pow_len hβ m) (lt_pow_len hβ n)
theorem len_add {β : Nat} (hβ : 1 < β) (m n : Nat) : len β (m + n) ≤ max (len β m) (len β n) + 1 := by
  apply len_le_of_lt hβ
  rw [Nat.pow_succ]
  have h1 := lt_pow_len hβ m
  have h2 := lt_pow_len hβ n
  have h3 : β ^ len β m ≤ β ^ max (len β m) (len β n) := Nat.pow_le_pow_right (by omega) (by omega)
  have h4 : β ^ len β n ≤ β ^ max (len β m) (len β n) := Nat.pow_le_pow_right (by omega) (by omega)
  have h5 : β ^ max (len β m) (len β n) * 2 ≤ β ^ max (len β m) (len β n) * β := Nat.mul_le_mul_left _ hβ
  omega
theorem len_pos {β n : Nat} (hβ : 1 < β) (h : 0 < n) : 0 < len β n := by rw [len, digs_pos hβ h]; simp
end Go.Proofs.YtdecgcdkaaiglaaGreat
namespace Go.Proofs.YtdecgcdkaaiglaaGreat
/-- The digit that is guessed is still too great. u = u3 * p + ul, v = (v1 * β + v2) * p + vl. -/
theorem guess_keep {β v1 v2 u2 top d r p ul vl u v : Nat} (ht : top = d * v1 + r) (hu : u = (top * β + u2) * p + ul) (hv : v = (v1 * β + v2) * p + vl) (hul : ul < p) (hlt : u < β * v)
    (h : β ≤ d ∨ r * β + u2 < d * v2) : u / v < d := by
  have hvp : 0 < v := by
    rcases Nat.eq_zero_or_pos v with e | e
    · rw [e] at hlt; simp at hlt
    · exact e
  rcases h with h | h
  · have := (Nat.div_lt_iff_lt_mul hvp).2 hlt
    omega
  · rw [Nat.div_lt_iff_lt_mul hvp]
    have h1 : top * β + u2 + 1 ≤ d * (v1 * β + v2) := by
      rw [ht, Nat.add_mul, Nat.mul_add, Nat.mul_assoc]; omega
    have h2 : (top * β + u2 + 1) * p ≤ d * (v1 * β + v2) * p := Nat.mul_le_mul_right _ h1
    rw [Nat.add_mul _ 1 p, Nat.one_mul] at h2
    have h3 : d * v = d * (v1 * β + v2) * p + d * vl := by rw [hv, Nat.mul_add, Nat.mul_assoc]
    rw [h3, hu]
    omega
/-- The digit that is guessed is at most one too great. -/
theorem guess_end {β v1 v2 u2 top d r p ul vl u v : Nat} (ht : top = d * v1 + r) (hu : u = (top * β + u2) * p + ul) (hv : v = (v1 * β + v2) * p + vl) (hvl : vl < p) (hlt : u < β * v)
    (hv1 : 1 ≤ v1) (h : d * v2 ≤ r * β + u2) : d ≤ u / v + 1 := by
  have hvp : 0 < v := by
    rcases Nat.eq_zero_or_pos v with e | e
    · rw [e] at hlt; simp at hlt
    · exact e
  have hq : u / v < β := (Nat.div_lt_iff_lt_mul hvp).2 hlt
  rcases Nat.lt_or_ge (u / v + 1) d with hd | hd
  · exfalso
    have h1 : d * (v1 * β + v2) ≤ top * β + u2 := by
      rw [ht, Nat.add_mul, Nat.mul_add, Nat.mul_assoc]; omega
    have h2 : d * (v1 * β + v2) * p ≤ (top * β + u2) * p := Nat.mul_le_mul_right _ h1
    have h3 : u < (u / v + 1) * v := by
      have := Nat.div_add_mod u v
      have := Nat.mod_lt u hvp
      rw [Nat.add_mul, Nat.one_mul, Nat.mul_comm]
      omega
    -- (q + 1) v < (q + 1) (V + 1) p, V = v1 β + v2
    have h4 : (u / v + 1) * v ≤ (u / v + 1) * ((v1 * β + v2 + 1) * p) := by
      apply Nat.mul_le_mul_left
      rw [hv, Nat.add_mul _ 1 p, Nat.one_mul]; omega
    have h5 : d * (v1 * β + v2) * p < (u / v + 1) * (v1 * β + v2 + 1) * p := by
      rw [Nat.mul_assoc (u / v + 1)]; omega
    have h6 : d * (v1 * β + v2) < (u / v + 1) * (v1 * β + v2 + 1) := Nat.lt_of_mul_lt_mul_right h5
    have h7 : (u / v + 1 + 1) * (v1 * β + v2) ≤ d * (v1 * β + v2) := Nat.mul_le_mul_right _ (by omega)
    rw [Nat.add_mul (u / v + 1) 1, Nat.one_mul] at h7
    rw [Nat.mul_add (u / v + 1) _ 1, Nat.mul_one] at h6
    have h8 : 1 * β ≤ v1 * β := Nat.mul_le_mul_right _ hv1
    omega
  · exact hd
/-- The first guess: how great it can be. -/
theorem guess_first {β v1 um un d r : Nat} (hv1 : β ≤ 2 * v1) (hum : um ≤ v1) (hun : un < β) (hd : um * β + un = d * v1 + r) (hr : r < v1) : d ≤ β + 1 := by
  rcases Nat.lt_or_ge (β + 1) d with h | h
  · exfalso
    have h1 : (β + 2) * v1 ≤ d * v1 := Nat.mul_le_mul_right _ (by omega)
    have h2 : um * β ≤ v1 * β := Nat.mul_le_mul_right _ hum
    rw [Nat.add_mul, Nat.mul_comm β v1] at h1
    omega
  · exact h
/-- Where the guess leaves off because the rest is no digit any more. -/
theorem guess_break {β v2 u2 d r : Nat} (hv2 : v2 < β) (hd : d ≤ β) (hr : β ≤ r) : d * v2 ≤ r * β + u2 := by
  have h1 : d * v2 ≤ β * v2 := Nat.mul_le_mul_right _ hd
  have h2 : β * v2 ≤ β * β := Nat.mul_le_mul_left _ (by omega)
  have h3 : β * β ≤ r * β := Nat.mul_le_mul_right _ hr
  omega
/-- From the numbers to the quotient: no borrow is left, or one is and the divisor is added back. -/
theorem guess_no_borrow {u v d u' B : Nat} (hd1 : u / v ≤ d) (hd2 : d ≤ u / v + 1) (hv : 0 < v) (h : u' + d * v = u + 0 * B) : d = u / v ∧ u' = u % v := by
  have h1 := Nat.div_add_mod u v
  have h2 := Nat.mod_lt u hv
  rw [Nat.zero_mul, Nat.add_zero] at h
  have e : d = u / v := by
    rcases Nat.lt_or_ge (u / v) d with h3 | h3
    · have e : d = u / v + 1 := by omega
      rw [e, Nat.add_mul, Nat.one_mul, Nat.mul_comm] at h
      omega
    · omega
  refine ⟨e, ?_⟩
  rw [e, Nat.mul_comm] at h
  omega
theorem guess_borrow {u v d u' B : Nat} (hd1 : u / v ≤ d) (hd2 : d ≤ u / v + 1) (hv : 0 < v) (hB : u' < B) (h : u' + d * v = u + 1 * B) : d = u / v + 1 ∧ u' + v = u % v + B := by
  have h1 := Nat.div_add_mod u v
  have h2 := Nat.mod_lt u hv
  rw [Nat.one_mul] at h
  have e : d = u / v + 1 := by
    rcases Nat.lt_or_ge (u / v) d with h3 | h3
    · omega
    · have e : d = u / v := by omega
      rw [e, Nat.mul_comm] at h
      omega
  refine ⟨e, ?_⟩
  rw [e, Nat.add_mul, Nat.one_mul, Nat.mul_comm] at h
  omega
/-- One digit of a product taken away. -/
theorem sub_step {β lo un cy bo d x y s bo' P : Nat} (hβ : 0 < β) (hs : s + y + bo = x + bo' * β) (hy : y = (cy + d * un) % β) {L O : Nat} (hL : L + d * lo = O + (cy + bo) * P) :
    (L + P * s) + d * (lo + P * un) = (O + P * x) + ((cy + d * un) / β + bo') * (P * β) := by
  have h1 := Nat.div_add_mod (cy + d * un) β
  rw [← hy] at h1
  have h2 : P * (s + y + bo) = P * (x + bo' * β) := by rw [hs]
  have h3 : P * (cy + d * un) = P * (β * ((cy + d * un) / β) + y) := by rw [h1]
  generalize (cy + d * un) / β = q at *
  simp only [Nat.mul_add, Nat.add_mul, Nat.mul_assoc, Nat.mul_comm, Nat.mul_left_comm] at h2 h3 hL ⊢
  omega
theorem guess_start {β v1 v2 u2 top p ul vl u v : Nat} (hu : u = (top * β + u2) * p + ul) (hv : v = (v1 * β + v2) * p + vl) (hu2 : u2 < β) (hul : ul < p) (hv1 : 0 < v1) : u / v ≤ top / v1 := by
  rw [Nat.le_div_iff_mul_le hv1]
  have h1 : u < (top + 1) * (β * p) := by
    have h2 : (top * β + u2 + 1) * p ≤ (top + 1) * β * p := Nat.mul_le_mul_right _ (by rw [Nat.add_mul, Nat.one_mul]; omega)
    rw [Nat.add_mul _ 1, Nat.one_mul] at h2
    rw [hu, ← Nat.mul_assoc]; omega
  have h3 : u / v * v ≤ u := Nat.div_mul_le_self u v
  have h4 : u / v * (v1 * (β * p)) ≤ u / v * v := by
    apply Nat.mul_le_mul_left
    rw [hv, Nat.add_mul, Nat.mul_assoc]; omega
  have h5 : u / v * v1 * (β * p) < (top + 1) * (β * p) := by rw [Nat.mul_assoc]; omega
  have := Nat.lt_of_mul_lt_mul_right h5
  omega
theorem guess_um {β v1 v2 um un u2 p ul vl u v : Nat} (hu : u = ((um * β + un) * β + u2) * p + ul) (hv : v = (v1 * β + v2) * p + vl) (hv2 : v2 < β) (hvl : vl < p) (hlt : u < β * v) : um ≤ v1 := by
  rcases Nat.lt_or_ge v1 um with h | h
  · exfalso
    have h1 : v < (v1 + 1) * (β * p) := by
      have h2 : (v1 * β + v2 + 1) * p ≤ (v1 + 1) * β * p := Nat.mul_le_mul_right _ (by rw [Nat.add_mul, Nat.one_mul]; omega)
      rw [Nat.add_mul _ 1, Nat.one_mul] at h2
      rw [hv, ← Nat.mul_assoc]; omega
    have h3 : (v1 + 1) * (β * p) ≤ um * (β * p) := Nat.mul_le_mul_right _ h
    have h4 : β * v ≤ β * (um * (β * p)) := Nat.mul_le_mul_left _ (by omega)
    have h5 : β * (um * (β * p)) ≤ u := by
      have e : β * (um * (β * p)) = um * β * β * p := by simp only [Nat.mul_assoc, Nat.mul_comm, Nat.mul_left_comm]
      have h6 : um * β * β * p ≤ ((um * β + un) * β + u2) * p := Nat.mul_le_mul_right _ (by rw [Nat.add_mul]; omega)
      rw [e, hu]; omega
    omega
  · exact h
end Go.Proofs.YtdecgcdkaaiglaaGreat
namespace Go.Proofs.YtdecgcdkaaiglaaGreat
theorem getD_take {ds : List Nat} {k : Nat} (hk : k < ds.length) : ds.getD k 0 = ds[k] := by
  rw [List.getD_eq_getElem?_getD, List.getElem?_eq_getElem hk]; rfl
theorem getD_past {ds : List Nat} {k : Nat} (hk : ds.length ≤ k) : ds.getD k 0 = 0 := by
  rw [List.getD_eq_getElem?_getD, List.getElem?_eq_none hk]; rfl
theorem val_take_getD (β : Nat) (ds : List Nat) (k : Nat) : val β (ds.take (k + 1)) = val β (ds.take k) + β ^ k * ds.getD k 0 := by
  rcases Nat.lt_or_ge k ds.length with h | h
  · rw [getD_take h, val_take_succ β ds k h]
  · rw [getD_past h, List.take_of_length_le (by omega), List.take_of_length_le h]; simp
theorem val_set (β : Nat) (ds : List Nat) (k d : Nat) (hk : k < ds.length) : val β (ds.set k d) + β ^ k * ds[k] = val β ds + β ^ k * d := by
  have e1 := val_take_drop β ds k (by omega)
  have e2 := val_take_drop β (ds.set k d) k (by simp; omega)
  rw [val_drop β ds k hk] at e1
  rw [val_drop β (ds.set k d) k (by simpa using hk)] at e2
  have e3 : (ds.set k d).take k = ds.take k := by rw [List.take_set_of_le (by omega)]
  have e4 : (ds.set k d).drop (k + 1) = ds.drop (k + 1) := by rw [List.drop_set_of_lt (by omega)]
  rw [e3, e4] at e2
  simp only [List.getElem_set_self] at e2
  rw [e1, e2, Nat.mul_add, Nat.mul_add]; omega
/-- Sum: a digit more. t: the carry and both digits. -/
theorem add_step {β i D A B c x y : Nat} (h : D + c * β ^ i = A + B) : (D + β ^ i * ((c + x + y) % β)) + (c + x + y) / β * β ^ (i + 1) = (A + β ^ i * x) + (B + β ^ i * y) := by
  have h1 := Nat.div_add_mod (c + x + y) β
  have h2 : β ^ i * (c + x + y) = β ^ i * (β * ((c + x + y) / β) + (c + x + y) % β) := by rw [h1]
  generalize (c + x + y) / β = q at *
  generalize (c + x + y) % β = r at *
  rw [Nat.pow_succ]
  simp only [Nat.mul_add, Nat.add_mul, Nat.mul_assoc, Nat.mul_comm, Nat.mul_left_comm] at h2 h ⊢
  omega
/-- Difference: a digit more. s is the digit, b' the borrow that comes of it. -/
theorem sub_digit {β i D A B b x y s b' : Nat} (h : D + B = A + b * β ^ i) (hs : s + y + b = x + b' * β) : (D + β ^ i * s) + (B + β ^ i * y) = (A + β ^ i * x) + b' * β ^ (i + 1) := by
  have h2 : β ^ i * (s + y + b) = β ^ i * (x + b' * β) := by rw [hs]
  rw [Nat.pow_succ]
  simp only [Nat.mul_add, Nat.add_mul, Nat.mul_assoc, Nat.mul_comm, Nat.mul_left_comm] at h2 h ⊢
  omega
/-- Product, inner loop: a digit more. O: what is there; o: the digit at the place i + k. -/
theorem mul_step {β P k O O' c x y o Y Z : Nat} (h : O + c * (P * β ^ k) = Z + x * P * Y) (hs : O' + P * β ^ k * o = O + P * β ^ k * ((c + x * y + o) % β)) :
    O' + (c + x * y + o) / β * (P * β ^ (k + 1)) = Z + x * P * (Y + β ^ k * y) := by
  have h1 := Nat.div_add_mod (c + x * y + o) β
  have h2 : P * β ^ k * (c + x * y + o) = P * β ^ k * (β * ((c + x * y + o) / β) + (c + x * y + o) % β) := by rw [h1]
  generalize (c + x * y + o) / β = q at *
  generalize (c + x * y + o) % β = r at *
  rw [Nat.pow_succ]
  simp only [Nat.mul_add, Nat.add_mul, Nat.mul_assoc, Nat.mul_comm, Nat.mul_left_comm] at h2 h hs ⊢
  omega
theorem mul_bound {β c x y o : Nat} (hc : c < β) (hx : x < β) (hy : y < β) (ho : o < β) : c + x * y + o < β * β := by
  have h1 : x * y ≤ (β - 1) * (β - 1) := Nat.mul_le_mul (by omega) (by omega)
  obtain ⟨g, rfl⟩ : ∃ g, β = g + 1 := ⟨β - 1, by omega⟩
  simp only [Nat.add_sub_cancel] at h1
  rw [Nat.add_mul, Nat.mul_add]
  omega
/-- Short division: a digit more, from above. -/
theorem div_step {β d x r : Nat} (hd : 0 < d) (hr : r < d) (hx : x < β) : (r * β + x) / d < β ∧ (r * β + x) % d < d := by
  refine ⟨(Nat.div_lt_iff_lt_mul hd).2 ?_, Nat.mod_lt _ hd⟩
  have : (r + 1) * β ≤ d * β := Nat.mul_le_mul_right _ (by omega)
  rw [Nat.add_mul, Nat.one_mul] at this
  rw [Nat.mul_comm β d]
  omega
/-- Short division, what holds from digit k on: Q the quotient's digits there, A the number's. -/
theorem div_inv {β d x r Q A : Nat} (h : A = Q * d + r) : x + β * A = ((r * β + x) / d + β * Q) * d + (r * β + x) % d := by
  have h1 := Nat.div_add_mod (r * β + x) d
  have h2 : (r * β + x) / d * d + (r * β + x) % d = r * β + x := by rw [Nat.mul_comm]; exact h1
  rw [h, Nat.add_mul]
  simp only [Nat.mul_add, Nat.add_mul, Nat.mul_assoc, Nat.mul_comm, Nat.mul_left_comm] at h2 ⊢
  omega
theorem val_set_drop (β : Nat) (ds : List Nat) (k d : Nat) (hk : k < ds.length) : val β ((ds.set k d).drop k) = d + β * val β (ds.drop (k + 1)) := by
  rw [val_drop β (ds.set k d) k (by simpa using hk), List.drop_set_of_lt (by omega)]
  simp only [List.getElem_set_self]
/-- Shift up: a digit more. s = 2^n. -/
theorem up_step {β s i D A x : Nat} {o : Nat} (h : D + β ^ i * o = A * s) : (D + β ^ i * (o + x * s % β)) + β ^ (i + 1) * (x * s / β) = (A + β ^ i * x) * s := by
  have h1 := Nat.div_add_mod (x * s) β
  have h2 : β ^ i * (x * s) = β ^ i * (β * (x * s / β) + x * s % β) := by rw [h1]
  generalize x * s / β = q at *
  generalize x * s % β = r at *
  rw [Nat.pow_succ, Nat.add_mul]
  simp only [Nat.mul_add, Nat.add_mul, Nat.mul_assoc, Nat.mul_comm, Nat.mul_left_comm] at h2 h ⊢
  omega
/-- Bits that do not meet: 'or' is the sum. -/
theorem or_eq_add {n a b : Nat} (hb : b < 2 ^ n) : (2 ^ n * a) ||| b = 2 ^ n * a + b := (Nat.two_pow_add_eq_or_of_lt hb a).symm
theorem or_eq_add' {n a b : Nat} (hb : b < 2 ^ n) : b ||| (2 ^ n * a) = b + 2 ^ n * a := by rw [Nat.or_comm, or_eq_add hb, Nat.add_comm]
/-- The bits that leave a digit at the bottom, and those that stay. β = s * t. -/
theorem shl_mod {s t x : Nat} (hs : 0 < s) : x * s % (s * t) = s * (x % t) := by rw [Nat.mul_comm x s, Nat.mul_mod_mul_left]
/-- Shift down: a digit more. β = s * t; A: the digits below, D: those of the quotient. -/
theorem down_step {s t i A x : Nat} (hs : 0 < s) (ht : 0 < t) : (A + (s * t) ^ (i + 1) * x) / s = A / s + (s * t) ^ i * (t * x) := by
  have e : (s * t) ^ (i + 1) * x = s * ((s * t) ^ i * (t * x)) := by
    rw [Nat.pow_succ]; simp only [Nat.mul_assoc, Nat.mul_comm, Nat.mul_left_comm]
  rw [e, Nat.add_mul_div_left _ _ hs]
theorem down_split {s t x : Nat} (ht : 0 < t) : t * x = t * (x % s) + s * t * (x / s) := by
  conv => lhs; rw [← Nat.mod_add_div x s]
  rw [Nat.mul_add]
  simp only [Nat.mul_assoc, Nat.mul_comm, Nat.mul_left_comm]
end Go.Proofs.YtdecgcdkaaiglaaGreat
namespace Go.Proofs.YtdecgcdkaaiglaaGreat
/-- The sign of a decimal digit. -/
def chr (d : Nat) : UInt8 := UInt8.ofNat (48 + d)
/-- The digit of a sign. -/
def dig (c : UInt8) : Nat := c.toNat - 48
/-- A sign is a decimal digit. -/
def isDig (c : UInt8) : Bool := decide (48 ≤ c.toNat) && decide (c.toNat ≤ 57)
/-- A text is decimal digits, one or more. -/
def isDigs (l : List UInt8) : Bool := l.all isDig && !l.isEmpty
/-- The number that decimal digits say. -/
def decVal (l : List UInt8) : Nat := l.foldl (fun n c => 10 * n + dig c) 0
/-- A number as decimal digits. -/
def dec (n : Nat) : List UInt8 := if n = 0 then [48] else (digs 10 n).reverse.map chr
theorem dig_chr {d : Nat} (h : d < 10) : dig (chr d) = d := by
  unfold dig chr
  rw [UInt8.toNat_ofNat']
  have : (48 + d) % 2 ^ 8 = 48 + d := Nat.mod_eq_of_lt (by omega)
  omega
theorem isDig_chr {d : Nat} (h : d < 10) : isDig (chr d) = true := by
  unfold isDig chr
  rw [UInt8.toNat_ofNat']
  have : (48 + d) % 2 ^ 8 = 48 + d := Nat.mod_eq_of_lt (by omega)
  simp [this]; omega
theorem chr_dig {c : UInt8} (h : isDig c = true) : chr (dig c) = c := by
  simp [isDig] at h
  unfold chr dig
  apply UInt8.toNat_inj.1
  rw [UInt8.toNat_ofNat']
  have : c.toNat < 2 ^ 8 := UInt8.toNat_lt c
  have : (48 + (c.toNat - 48)) % 2 ^ 8 = 48 + (c.toNat - 48) := Nat.mod_eq_of_lt (by omega)
  omega
theorem dig_lt {c : UInt8} (h : isDig c = true) : dig c < 10 := by
  simp [isDig] at h; unfold dig; omega
theorem chr_toNat {d : Nat} (h : d < 10) : (chr d).toNat = 48 + d := by
  unfold chr; rw [UInt8.toNat_ofNat']; exact Nat.mod_eq_of_lt (by omega)
theorem decVal_nil : decVal [] = 0 := rfl
theorem decVal_foldl (l : List UInt8) : ∀ n : Nat, l.foldl (fun n c => 10 * n + dig c) n = n * 10 ^ l.length + decVal l := by
  induction l with
  | nil => intro n; simp [decVal]
  | cons c l ih =>
    intro n
    have e : decVal (c :: l) = (10 * 0 + dig c) * 10 ^ l.length + decVal l := by
      show List.foldl (fun n c => 10 * n + dig c) (10 * 0 + dig c) l = _
      exact ih _
    rw [List.foldl_cons, ih, e, List.length_cons, Nat.pow_succ]
    simp only [Nat.mul_add, Nat.add_mul, Nat.mul_assoc, Nat.mul_comm, Nat.mul_left_comm, Nat.mul_zero, Nat.zero_add]
    omega
theorem decVal_append (a b : List UInt8) : decVal (a ++ b) = decVal a * 10 ^ b.length + decVal b := by
  rw [decVal, List.foldl_append, decVal_foldl b]; rfl
theorem decVal_snoc (a : List UInt8) (c : UInt8) : decVal (a ++ [c]) = 10 * decVal a + dig c := by
  rw [decVal_append]; simp [decVal]; omega
theorem decVal_cons (c : UInt8) (l : List UInt8) : decVal (c :: l) = dig c * 10 ^ l.length + decVal l := by
  rw [decVal, List.foldl_cons, decVal_foldl]; simp
/-- decimal digits and digits to the base ten -/
theorem decVal_eq_val (l : List UInt8) : decVal l = val 10 (l.reverse.map dig) := by
  induction l with
  | nil => rfl
  | cons c l ih => rw [decVal_cons, List.reverse_cons, List.map_append, val_append, ih]; simp [val]; rw [Nat.mul_comm]; omega
theorem decVal_lt {l : List UInt8} (h : l.all isDig = true) : decVal l < 10 ^ l.length := by
  rw [decVal_eq_val]
  have hs : Small 10 (l.reverse.map dig) := by
    intro d hd
    simp at hd
    obtain ⟨c, hc, rfl⟩ := hd
    exact dig_lt (List.all_eq_true.1 h c hc)
  simpa using val_lt hs
theorem digs_small (n : Nat) : Small 10 (digs 10 n) := (digs_spec (by omega) n).1.1
theorem dec_all (n : Nat) : (dec n).all isDig = true := by
  unfold dec
  split
  · rfl
  · rw [List.all_eq_true]
    intro c hc
    simp only [List.mem_map, List.mem_reverse] at hc
    obtain ⟨d, hd, rfl⟩ := hc
    exact isDig_chr (digs_small n d hd)
theorem dec_ne (n : Nat) : dec n ≠ [] := by
  unfold dec
  split
  · simp
  · rename_i h
    rw [digs_pos (by omega) (by omega)]; simp
theorem dec_isDigs (n : Nat) : isDigs (dec n) = true := by
  unfold isDigs; rw [dec_all]; simp [dec_ne]
theorem decVal_dec (n : Nat) : decVal (dec n) = n := by
  unfold dec
  split
  · rename_i h; subst h; decide
  · rw [decVal_eq_val, ← List.map_reverse, List.reverse_reverse, List.map_map]
    have e : (digs 10 n).map (dig ∘ chr) = digs 10 n := by
      have : ∀ l : List Nat, Small 10 l → l.map (dig ∘ chr) = l := by
        intro l
        induction l with
        | nil => intro _; rfl
        | cons d l ih => intro h; rw [List.map_cons, ih h.tail]; simp [dig_chr h.head]
      exact this _ (digs_small n)
    rw [e]; exact (digs_spec (by omega) n).2
theorem dec_inj {m n : Nat} (h : dec m = dec n) : m = n := by rw [← decVal_dec m, h, decVal_dec]
theorem dec_zero : dec 0 = [48] := by simp [dec]
theorem dec_head (n : Nat) (hn : n ≠ 0) : ∀ c, (dec n).head? = some c → c ≠ 48 := by
  intro c hc
  unfold dec at hc
  rw [if_neg hn, List.head?_map, List.head?_reverse] at hc
  have hs := digs_spec (β := 10) (by omega) n
  cases hl : (digs 10 n).getLast? with
  | none => rw [hl] at hc; cases hc
  | some d =>
    rw [hl] at hc
    simp at hc
    subst hc
    have h1 : d < 10 := hs.1.1 d (List.mem_of_getLast? hl)
    have h2 : d ≠ 0 := fun e => hs.1.2 (by rw [hl, e])
    intro e
    have := congrArg UInt8.toNat e
    rw [chr_toNat h1] at this
    simp at this
    omega
/-- Digits without a 0 ahead are the number's own text. -/
theorem dec_decVal {l : List UInt8} (h : isDigs l = true) (h0 : l.head? ≠ some 48 ∨ l.length = 1) : dec (decVal l) = l := by
  simp [isDigs] at h
  obtain ⟨ha, hne⟩ := h
  have hs : Small 10 (l.reverse.map dig) := by
    intro d hd
    simp at hd
    obtain ⟨c, hc, rfl⟩ := hd
    exact dig_lt (ha c hc)
  have hm : ∀ l : List UInt8, (∀ c ∈ l, isDig c = true) → l.map (chr ∘ dig) = l := by
    intro l
    induction l with
    | nil => intro _; rfl
    | cons c l ih => intro h; rw [List.map_cons, ih (fun c hc => h c (List.mem_cons_of_mem _ hc))]; simp [chr_dig (h c List.mem_cons_self)]
  by_cases hz : decVal l = 0
  · unfold dec
    rw [if_pos hz]
    rcases h0 with h0 | h0
    · exfalso
      cases l with
      | nil => exact hne rfl
      | cons c l =>
        simp at h0
        rw [decVal_cons] at hz
        have hc := ha c List.mem_cons_self
        have h1 : dig c = 0 := by
          rcases Nat.eq_zero_or_pos (dig c) with e | e
          · exact e
          · have := Nat.mul_pos e (Nat.pow_pos (n := l.length) (show 0 < 10 by omega)); omega
        have h2 := chr_dig hc
        rw [h1] at h2
        exact h0 h2.symm
    · match l, h0 with
      | [c], _ =>
        have h1 : dig c = 0 := by simpa [decVal] using hz
        have h2 := chr_dig (ha c List.mem_cons_self)
        rw [h1] at h2
        rw [← h2]; rfl
  · have hc : Canon 10 (l.reverse.map dig) := by
      refine ⟨hs, ?_⟩
      rw [List.getLast?_map, List.getLast?_reverse]
      cases l with
      | nil => exact absurd rfl hne
      | cons c l =>
        simp only [List.head?_cons, Option.map_some]
        intro e
        injection e with e
        have h2 := chr_dig (ha c List.mem_cons_self)
        rw [e] at h2
        rcases h0 with h0 | h0
        · apply h0; rw [← h2]; rfl
        · have : l = [] := List.eq_nil_of_length_eq_zero (by simpa using h0)
          subst this
          apply hz
          simp [decVal, e]
    unfold dec
    rw [if_neg hz, decVal_eq_val, hc.digs (by omega), ← List.map_reverse, List.reverse_reverse, List.map_map, hm l ha]
theorem dec_length (n : Nat) (hn : n ≠ 0) : (dec n).length = len 10 n := by unfold dec; rw [if_neg hn]; simp [len]
theorem dec_length_le {n k : Nat} (h : n < 10 ^ k) (hk : 0 < k) : (dec n).length ≤ k := by
  by_cases hn : n = 0
  · subst hn; rw [dec_zero]; exact hk
  · rw [dec_length n hn]; exact len_le_of_lt (by omega) h
theorem lt_of_dec_length {n k : Nat} (h : (dec n).length ≤ k) : n < 10 ^ k := by
  have h1 := decVal_lt (dec_all n)
  rw [decVal_dec] at h1
  exact Nat.lt_of_lt_of_le h1 (Nat.pow_le_pow_right (by omega) h)
/-- As many digits to a great base, at most, as decimal ones. -/
theorem len_le_dec {β n : Nat} (hβ : 10 ≤ β) : len β n ≤ (dec n).length := by
  apply len_le_of_lt (by omega)
  exact Nat.lt_of_lt_of_le (lt_of_dec_length (Nat.le_refl _)) (Nat.pow_le_pow_left hβ _)
/-- The digits written so far, the least first, and what is left. -/
theorem digs_step {n m : Nat} {b : List Nat} (h : b ++ digs 10 m = digs 10 n) (hm : 0 < m) : (b ++ [m % 10]) ++ digs 10 (m / 10) = digs 10 n := by
  rw [← h, digs_pos (by omega) hm]; simp
end Go.Proofs.YtdecgcdkaaiglaaGreat
namespace Go.Proofs.YtdecgcdkaaiglaaGreat
/-- What digits say that may be below 0, the least first. -/
def vals (β : Int) : List Int → Int
  | [] => 0
  | d :: ds => d + β * vals β ds
theorem vals_append (β : Int) (a b : List Int) : vals β (a ++ b) = vals β a + β ^ a.length * vals β b := by
  induction a with
  | nil => simp [vals]
  | cons d a ih => simp only [List.cons_append, vals, ih, List.length_cons, Int.pow_succ]; rw [Int.mul_add, Int.mul_comm (β ^ a.length) β, Int.mul_assoc]; omega
theorem vals_cast (β : Nat) (ds : List Nat) : vals β (ds.map fun (d : Nat) => (d : Int)) = (val β ds : Int) := by
  induction ds with
  | nil => rfl
  | cons d ds ih => simp only [List.map_cons, vals, val, ih]; push_cast; rfl
theorem vals_set (β : Int) (zs : List Int) (k : Nat) (d : Int) (hk : k < zs.length) : vals β (zs.set k d) = vals β zs + β ^ k * (d - zs[k]) := by
  induction zs generalizing k with
  | nil => simp at hk
  | cons z zs ih =>
    cases k with
    | zero => simp [vals]; omega
    | succ k =>
      simp only [List.set_cons_succ, vals, List.getElem_cons_succ]
      rw [ih k (by simpa using hk), Int.mul_add, Int.pow_succ, ← Int.mul_assoc, Int.mul_comm β (β ^ k)]
      omega
/-- digits within bounds -/
def Fits (lo hi : Int) (zs : List Int) : Prop := ∀ z ∈ zs, lo ≤ z ∧ z < hi
theorem Fits.get {lo hi : Int} {zs : List Int} (h : Fits lo hi zs) {k : Nat} (hk : k < zs.length) : lo ≤ zs[k] ∧ zs[k] < hi := h _ (List.getElem_mem hk)
theorem vals_lt {β : Int} (hβ : 0 < β) {zs : List Int} (h : Fits 0 β zs) : 0 ≤ vals β zs ∧ vals β zs < β ^ zs.length := by
  induction zs with
  | nil => simp [vals]
  | cons z zs ih =>
    obtain ⟨h1, h2⟩ := h z List.mem_cons_self
    obtain ⟨h3, h4⟩ := ih (fun x hx => h x (List.mem_cons_of_mem _ hx))
    simp only [vals, List.length_cons, Int.pow_succ]
    have h5 := Int.mul_nonneg (Int.le_of_lt hβ) h3
    have h6 : β * (vals β zs + 1) ≤ β * β ^ zs.length := Int.mul_le_mul_of_nonneg_left (by omega) (Int.le_of_lt hβ)
    rw [Int.mul_add, Int.mul_one] at h6
    rw [Int.mul_comm (β ^ zs.length)]
    omega
theorem fits_nat {β : Nat} {zs : List Int} (h : Fits 0 β zs) : ∃ ds : List Nat, zs = (ds.map fun (d : Nat) => (d : Int)) ∧ Small β ds ∧ ds.length = zs.length := by
  refine ⟨zs.map Int.toNat, ?_, ?_, by simp⟩
  · rw [List.map_map]
    conv => lhs; rw [← List.map_id zs]
    apply List.map_congr_left
    intro z hz
    have := (h z hz).1
    simp; omega
  · intro d hd
    obtain ⟨z, hz, rfl⟩ := List.mem_map.1 hd
    have := h z hz
    omega
/-- The digits of a difference, before they are brought back. -/
def minusDs (da db : List Nat) (k : Nat) : List Int := (List.range da.length).map fun j => if j < k then (da.getD j 0 : Int) - db.getD j 0 else da.getD j 0
theorem minusDs_length (da db : List Nat) (k : Nat) : (minusDs da db k).length = da.length := by simp [minusDs]
theorem minusDs_get (da db : List Nat) (k j : Nat) (hj : j < da.length) : (minusDs da db k)[j]'(by rw [minusDs_length]; exact hj) = if j < k then (da.getD j 0 : Int) - db.getD j 0 else da.getD j 0 := by simp [minusDs]
theorem minusDs_set (da db : List Nat) (k : Nat) (hk : k < da.length) : (minusDs da db k).set k ((da.getD k 0 : Int) - db.getD k 0) = minusDs da db (k + 1) := by
  apply List.ext_getElem
  · simp [minusDs]
  · intro j h1 h2
    rw [minusDs_length] at h2
    rw [minusDs_get _ _ _ _ h2, List.getElem_set]
    by_cases h : k = j
    · subst h; simp
    · rw [if_neg h, minusDs_get _ _ _ _ h2]
      by_cases h3 : j < k
      · rw [if_pos h3, if_pos (by omega)]
      · rw [if_neg h3, if_neg (by omega)]
theorem map_vals_sub (β : Int) (f g : Nat → Int) : ∀ l : List Nat, vals β (l.map fun j => f j - g j) = vals β (l.map f) - vals β (l.map g) := by
  intro l
  induction l with
  | nil => rfl
  | cons x l ih => simp only [List.map_cons, vals, ih]; rw [Int.mul_sub]; omega
theorem range_getD (da : List Nat) : ((List.range da.length).map fun j => ((da.getD j 0 : Nat) : Int)) = da.map fun (d : Nat) => (d : Int) := by
  apply List.ext_getElem
  · simp
  · intro j h1 h2
    simp at h1
    simp [h1]
theorem vals_zeros (β : Int) : ∀ n, vals β (List.replicate n 0) = 0 := by
  intro n
  induction n with
  | zero => rfl
  | succ n ih => rw [List.replicate_succ, vals, ih]; simp
theorem vals_range (β : Nat) (db : List Nat) (n : Nat) (h : db.length ≤ n) : vals β ((List.range n).map fun j => ((db.getD j 0 : Nat) : Int)) = val β db := by
  obtain ⟨m, rfl⟩ : ∃ m, n = db.length + m := ⟨n - db.length, by omega⟩
  have e : ((List.range (db.length + m)).map fun j => ((db.getD j 0 : Nat) : Int)) = (db.map fun (d : Nat) => (d : Int)) ++ List.replicate m 0 := by
    apply List.ext_getElem
    · simp
    · intro j h1 h2
      simp at h1
      rw [List.getElem_append]
      by_cases hj : j < db.length
      · simp [hj]
      · simp [hj]
  rw [e, vals_append, vals_zeros, vals_cast]; simp
theorem vals_minusDs (β : Nat) (da db : List Nat) (h : db.length ≤ da.length) : vals β (minusDs da db db.length) = (val β da : Int) - val β db := by
  have e : minusDs da db db.length = (List.range da.length).map fun j => ((da.getD j 0 : Nat) : Int) - ((db.getD j 0 : Nat) : Int) := by
    unfold minusDs
    apply List.map_congr_left
    intro j _
    by_cases hj : j < db.length
    · rw [if_pos hj]
    · rw [if_neg hj, getD_past (ds := db) (by omega)]; simp
  rw [e, map_vals_sub, range_getD, vals_cast, vals_range _ _ _ h]
theorem minusDs_fits {β : Nat} {da db : List Nat} (hβ : 0 < β) (ha : Small β da) (hb : Small β db) (k : Nat) : Fits (-(β : Int)) β (minusDs da db k) := by
  intro z hz
  obtain ⟨j, hj, rfl⟩ := List.mem_map.1 hz
  have h1 := ha.getD hβ j
  have h2 := hb.getD hβ j
  split <;> omega
/-- The digits while they are brought back: those below k are within bounds. -/
def BackAt (β : Int) (zs : List Int) (k : Nat) (V : Int) : Prop :=
  vals β zs = V ∧ Fits 0 β (zs.take k) ∧ (∀ h : k < zs.length, -β ≤ zs[k] ∧ zs[k] < β) ∧ ∀ j (h : j < zs.length), k < j → -β < zs[j] ∧ zs[j] < β
theorem BackAt.start {β : Nat} {da db : List Nat} (hβ : 0 < β) (ha : Small β da) (hb : Small β db) (h : db.length ≤ da.length) : BackAt β (minusDs da db db.length) 0 ((val β da : Int) - val β db) := by
  refine ⟨vals_minusDs β da db h, by intro z hz; simp at hz, fun h0 => (minusDs_fits hβ ha hb _).get h0, fun j hj _ => ?_⟩
  rw [minusDs_length] at hj
  rw [minusDs_get _ _ _ _ hj]
  have h1 := ha.getD hβ j
  have h2 := hb.getD hβ j
  split <;> omega
theorem take_fits {lo hi : Int} {zs : List Int} {k : Nat} (hk : k < zs.length) (h : Fits lo hi (zs.take k)) (h1 : lo ≤ zs[k]) (h2 : zs[k] < hi) : Fits lo hi (zs.take (k + 1)) := by
  intro z hz
  rw [take_snoc _ _ hk] at hz
  rcases List.mem_append.1 hz with h3 | h3
  · exact h z h3
  · simp at h3; subst h3; exact ⟨h1, h2⟩
theorem BackAt.keep {β : Int} {zs : List Int} {k : Nat} {V : Int} (h : BackAt β zs k V) (hk : k < zs.length) (h0 : 0 ≤ zs[k]) : BackAt β zs (k + 1) V := by
  obtain ⟨h1, h2, h3, h4⟩ := h
  refine ⟨h1, take_fits hk h2 h0 (h3 hk).2, fun hk' => ?_, fun j hj hlt => h4 j hj (by omega)⟩
  have := h4 (k + 1) hk' (by omega)
  omega
/-- a digit below 0 is not the greatest one -/
theorem BackAt.more {β : Int} (hβ : 0 < β) {zs : List Int} {k : Nat} {V : Int} (h : BackAt β zs k V) (hV : 0 ≤ V) (hk : k < zs.length) (h0 : zs[k] < 0) : k + 1 < zs.length := by
  rcases Nat.lt_or_ge (k + 1) zs.length with h5 | h5
  · exact h5
  · exfalso
    obtain ⟨h1, h2, h3, h4⟩ := h
    have e : zs = zs.take k ++ [zs[k]] := by rw [← take_snoc _ _ hk, List.take_of_length_le h5]
    have h6 := vals_append β (zs.take k) [zs[k]]
    rw [← e, h1] at h6
    simp only [vals, Int.mul_zero, Int.add_zero] at h6
    have h7 := (vals_lt hβ h2).2
    have h8 : β ^ (zs.take k).length * zs[k] ≤ β ^ (zs.take k).length * (-1) := Int.mul_le_mul_of_nonneg_left (by omega) (Int.le_of_lt (Int.pow_pos hβ))
    omega
theorem BackAt.back {β : Int} (hβ : 0 < β) {zs : List Int} {k : Nat} {V : Int} (h : BackAt β zs k V) (hk : k + 1 < zs.length) (h0 : zs[k] < 0) :
    BackAt β ((zs.set k (zs[k] + β)).set (k + 1) (zs[k + 1] - 1)) (k + 1) V := by
  obtain ⟨h1, h2, h3, h4⟩ := h
  have hb := h3 (by omega)
  have hb1 := h4 (k + 1) hk (by omega)
  refine ⟨?_, ?_, ?_, ?_⟩
  · rw [vals_set _ _ _ _ (by simpa using hk), vals_set _ _ _ _ (by omega), List.getElem_set_ne (by omega), h1, Int.pow_succ]
    have e1 : zs[k] + β - zs[k] = β := by omega
    have e2 : zs[k + 1] - 1 - zs[k + 1] = -1 := by omega
    rw [e1, e2]
    omega
  · rw [List.take_set_of_le (by omega)]
    apply take_fits (by simpa using (by omega : k < zs.length))
    · rw [List.take_set_of_le (by omega)]; exact h2
    · rw [List.getElem_set_self]; omega
    · rw [List.getElem_set_self]; omega
  · intro h5
    rw [List.getElem_set_self]
    omega
  · intro j hj hlt
    simp at hj
    rw [List.getElem_set_ne (by omega), List.getElem_set_ne (by omega)]
    exact h4 j hj (by omega)
/-- all digits are brought back -/
theorem BackAt.done {β : Nat} {zs : List Int} {k : Nat} {V : Nat} (h : BackAt β zs k (V : Int)) (hk : zs.length ≤ k) : ∃ ds : List Nat, zs = (ds.map fun (d : Nat) => (d : Int)) ∧ Small β ds ∧ ds.length = zs.length ∧ val β ds = V := by
  obtain ⟨h1, h2, _, _⟩ := h
  rw [List.take_of_length_le hk] at h2
  obtain ⟨ds, rfl, hs, hl⟩ := fits_nat h2
  refine ⟨ds, rfl, hs, hl, ?_⟩
  rw [vals_cast] at h1
  omega
end Go.Proofs.YtdecgcdkaaiglaaGreat
namespace Go.Proofs.YtdecgcdkaaiglaaGreat
/-- A number's text: in lowest terms. -/
def fracText (q : Rat) : List UInt8 := (if q.num < 0 then [45] else []) ++ dec q.num.natAbs ++ (if q.den = 1 then [] else 47 :: dec q.den)
/-- At most M digits above and below. -/
def Short (M : Nat) (q : Rat) : Prop := (dec q.num.natAbs).length ≤ M ∧ (dec q.den).length ≤ M
instance (M : Nat) (q : Rat) : Decidable (Short M q) := inferInstanceAs (Decidable (_ ∧ _))
/-- A text is that of a number. -/
def IsFrac (l : List UInt8) (q : Rat) : Prop := l = fracText q ∧ Short 50000 q
/-- The sign ahead, and what is behind it. -/
def signOf (l : List UInt8) : Bool := l.head? == some 45
def unsigned (l : List UInt8) : List UInt8 := if signOf l then l.tail else l
/-- What stands ahead of a sign, behind it, whether it is there. -/
def ahead (c : UInt8) (l : List UInt8) : List UInt8 := l.takeWhile (· != c)
def behind (c : UInt8) (l : List UInt8) : List UInt8 := (l.dropWhile (· != c)).tail
def has (c : UInt8) (l : List UInt8) : Bool := l.contains c
def ratOf (neg : Bool) (n d : Nat) : Rat := Rat.divInt (if neg then -(n : Int) else n) d
theorem ratOf_parts {neg : Bool} {n d : Nat} (hc : Nat.Coprime n d) (hd : d ≠ 0) : (ratOf neg n d).num = (if neg then -(n : Int) else n) ∧ (ratOf neg n d).den = d := by
  have hc' : Nat.Coprime (if neg then -(n : Int) else n).natAbs d := by cases neg <;> simpa using hc
  have e : ratOf neg n d = ⟨if neg then -(n : Int) else n, d, hd, hc'⟩ := by rw [Rat.mk_eq_divInt]; rfl
  rw [e]; exact ⟨rfl, rfl⟩
theorem all_ne_of_digits {l : List UInt8} (h : l.all isDig = true) {c : UInt8} (hc : isDig c = false) : ∀ x ∈ l, (x != c) = true := by
  intro x hx
  have h1 := List.all_eq_true.1 h x hx
  rw [bne_iff_ne]
  rintro rfl
  rw [h1] at hc; cases hc
theorem isDig_slash : isDig 47 = false := by decide
theorem isDig_minus : isDig 45 = false := by decide
theorem takeWhile_all {l t : List UInt8} {p : UInt8 → Bool} (h : ∀ x ∈ l, p x = true) : (l ++ t).takeWhile p = l ++ t.takeWhile p := by
  induction l with
  | nil => rfl
  | cons c l ih => simp [List.takeWhile_cons, h c List.mem_cons_self, ih (fun x hx => h x (List.mem_cons_of_mem _ hx))]
theorem dropWhile_all {l t : List UInt8} {p : UInt8 → Bool} (h : ∀ x ∈ l, p x = true) : (l ++ t).dropWhile p = t.dropWhile p := by
  induction l with
  | nil => rfl
  | cons c l ih => simp [List.dropWhile_cons, h c List.mem_cons_self, ih (fun x hx => h x (List.mem_cons_of_mem _ hx))]
theorem ahead_cut {c : UInt8} {l : List UInt8} (h : l.all isDig = true) (hc : isDig c = false) (t : List UInt8) : ahead c (l ++ c :: t) = l := by
  unfold ahead
  rw [takeWhile_all (all_ne_of_digits h hc)]; simp [List.takeWhile_cons]
theorem behind_cut {c : UInt8} {l : List UInt8} (h : l.all isDig = true) (hc : isDig c = false) (t : List UInt8) : behind c (l ++ c :: t) = t := by
  unfold behind
  rw [dropWhile_all (all_ne_of_digits h hc)]; simp [List.dropWhile_cons]
theorem has_cut (c : UInt8) (l t : List UInt8) : has c (l ++ c :: t) = true := by unfold has; simp
theorem ahead_none {c : UInt8} {l : List UInt8} (h : has c l = false) : ahead c l = l := by
  unfold has at h; unfold ahead
  have h' : c ∉ l := by simpa using h
  have := takeWhile_all (l := l) (t := []) (p := (· != c)) (by
    intro a ha
    rw [bne_iff_ne]
    rintro rfl
    exact h' ha)
  simpa using this
theorem has_digits {c : UInt8} {l : List UInt8} (h : l.all isDig = true) (hc : isDig c = false) : has c l = false := by
  unfold has
  rw [Bool.eq_false_iff]
  intro h1
  have h2 := List.contains_iff_mem.1 h1
  have := List.all_eq_true.1 h c h2
  rw [this] at hc; cases hc
/-- A text with the sign is what is ahead, the sign, what is behind. -/
theorem cut_eq {c : UInt8} {l : List UInt8} (h : has c l = true) : l = ahead c l ++ c :: behind c l := by
  unfold has at h; unfold ahead behind
  have h1 : c ∈ l := List.contains_iff_mem.1 h
  have e : (l.dropWhile (· != c)).head? = some c := by
    cases hd : l.dropWhile (· != c) with
    | nil =>
      have h2 := List.takeWhile_append_dropWhile (p := (· != c)) (l := l)
      rw [hd, List.append_nil] at h2
      rw [← h2] at h1
      have := List.all_eq_true.1 (List.all_takeWhile (p := (· != c)) (l := l)) c h1
      simp at this
    | cons a t =>
      have := List.head?_dropWhile_not (· != c) l
      rw [hd] at this
      simp at this
      rw [this]; rfl
  cases hd : l.dropWhile (· != c) with
  | nil => rw [hd] at e; cases e
  | cons a t =>
    rw [hd] at e
    injection e with e
    subst e
    have := List.takeWhile_append_dropWhile (p := (· != a)) (l := l)
    rw [hd] at this
    exact this.symm
theorem unsigned_pos {l : List UInt8} (h : signOf l = false) : unsigned l = l := by unfold unsigned; rw [h]; rfl
theorem unsigned_neg {l : List UInt8} (h : signOf l = true) : l = 45 :: unsigned l := by
  unfold unsigned; rw [h]
  unfold signOf at h
  cases l with
  | nil => simp at h
  | cons c l => simp at h; subst h; rfl
theorem sign_eq (l : List UInt8) : l = (if signOf l then [45] else []) ++ unsigned l := by
  by_cases h : signOf l = true
  · rw [if_pos h]; exact unsigned_neg h
  · rw [if_neg h, unsigned_pos (by simpa using h)]; rfl
theorem signOf_digits {l t : List UInt8} (h : isDigs l = true) : signOf (l ++ t) = false := by
  simp [isDigs] at h
  unfold signOf
  cases l with
  | nil => simp at h
  | cons c l =>
    have hc := h.1 c List.mem_cons_self
    simp
    rintro rfl
    simp [isDig_minus] at hc
/-- What the text of a number is cut into. -/
theorem frac_cut {l : List UInt8} {q : Rat} (h : l = fracText q) : signOf l = decide (q.num < 0) ∧ ahead 47 (unsigned l) = dec q.num.natAbs ∧ has 47 (unsigned l) = decide (q.den ≠ 1) ∧
    (q.den ≠ 1 → behind 47 (unsigned l) = dec q.den) := by
  have hn : signOf (dec q.num.natAbs ++ (if q.den = 1 then [] else 47 :: dec q.den)) = false := signOf_digits (dec_isDigs _)
  have hs : signOf l = decide (q.num < 0) := by
    rw [h, fracText, List.append_assoc]
    by_cases h0 : q.num < 0
    · rw [if_pos h0]; simp [signOf, h0]
    · rw [if_neg h0, List.nil_append, hn]; simp [h0]
  have hu : unsigned l = dec q.num.natAbs ++ (if q.den = 1 then [] else 47 :: dec q.den) := by
    by_cases h0 : q.num < 0
    · have := unsigned_neg (l := l) (by rw [hs]; simpa using h0)
      rw [h, fracText, if_pos h0] at this
      simp only [List.cons_append, List.nil_append, List.cons.injEq, true_and] at this
      rw [h, fracText, if_pos h0]
      simp only [List.cons_append, List.nil_append]
      rw [← this]
    · rw [unsigned_pos (by rw [hs]; simpa using h0), h, fracText, if_neg h0, List.nil_append]
  refine ⟨hs, ?_⟩
  rw [hu]
  by_cases hd : q.den = 1
  · rw [if_pos hd, List.append_nil]
    have hh := has_digits (dec_all q.num.natAbs) isDig_slash
    refine ⟨ahead_none hh, ?_, fun h => absurd hd h⟩
    rw [hh]; simp [hd]
  · rw [if_neg hd]
    exact ⟨ahead_cut (dec_all _) isDig_slash _, by rw [has_cut]; simp [hd], fun _ => behind_cut (dec_all _) isDig_slash _⟩
theorem fracText_inj {p q : Rat} (h : fracText p = fracText q) : p = q := by
  have h1 := frac_cut (l := fracText p) rfl
  have h2 := frac_cut (l := fracText p) h
  have e1 : dec p.num.natAbs = dec q.num.natAbs := h1.2.1.symm.trans h2.2.1
  have e2 := dec_inj e1
  have e3 : decide (p.num < 0) = decide (q.num < 0) := h1.1.symm.trans h2.1
  have e4 : decide (p.den ≠ 1) = decide (q.den ≠ 1) := h1.2.2.1.symm.trans h2.2.2.1
  have e5 : (p.num < 0) ↔ (q.num < 0) := by simpa using e3
  have e6 : (p.den = 1) ↔ (q.den = 1) := by
    have : (p.den ≠ 1) ↔ (q.den ≠ 1) := decide_eq_decide.1 e4
    omega
  apply Rat.ext
  · by_cases h0 : p.num < 0
    · have := e5.1 h0; omega
    · have : ¬ q.num < 0 := fun h => h0 (e5.2 h)
      omega
  · by_cases hd : p.den = 1
    · rw [hd, e6.1 hd]
    · have hd' : q.den ≠ 1 := fun h => hd (e6.2 h)
      exact dec_inj ((h1.2.2.2 hd).symm.trans (h2.2.2.2 hd'))
theorem IsFrac.inj {l : List UInt8} {p q : Rat} (hp : IsFrac l p) (hq : IsFrac l q) : p = q := fracText_inj (hp.1.symm.trans hq.1)
/-- Digits without a 0 ahead, few enough. -/
def plainDigs (l : List UInt8) : Bool := isDigs l && (l.head? != some 48 || l.length == 1) && decide (l.length ≤ 50000)
theorem plain_dec {n : Nat} (h : (dec n).length ≤ 50000) : plainDigs (dec n) = true := by
  unfold plainDigs
  rw [dec_isDigs]
  by_cases hn : n = 0
  · subst hn; rw [dec_zero]; decide
  · have h1 : ((dec n).head? != some 48) = true := by
      rw [bne_iff_ne]
      intro h2
      exact dec_head n hn 48 h2 rfl
    rw [h1]; simp [h]
theorem plain_spec {l : List UInt8} (h : plainDigs l = true) : dec (decVal l) = l ∧ l.length ≤ 50000 ∧ isDigs l = true := by
  unfold plainDigs at h
  simp only [Bool.and_eq_true, Bool.or_eq_true, bne_iff_ne, ne_eq, beq_iff_eq, decide_eq_true_eq] at h
  exact ⟨dec_decVal h.1.1 h.1.2, h.2, h.1.1⟩
/-- A text is a number just if its parts are as they should be. -/
theorem frac_of_parts {l : List UInt8} (hn : plainDigs (ahead 47 (unsigned l)) = true) (h0 : signOf l = true → ahead 47 (unsigned l) ≠ [48])
    (hd : has 47 (unsigned l) = true → plainDigs (behind 47 (unsigned l)) = true ∧ behind 47 (unsigned l) ≠ [48] ∧ behind 47 (unsigned l) ≠ [49] ∧
      Nat.Coprime (decVal (ahead 47 (unsigned l))) (decVal (behind 47 (unsigned l)))) :
    IsFrac l (ratOf (signOf l) (decVal (ahead 47 (unsigned l))) (if has 47 (unsigned l) then decVal (behind 47 (unsigned l)) else 1)) := by
  obtain ⟨e1, l1, _⟩ := plain_spec hn
  have hl := sign_eq l
  generalize hs : signOf l = s at *
  generalize hu : unsigned l = u at *
  have hneg : s = true → decVal (ahead 47 u) ≠ 0 := by
    intro hs' h
    rw [h, dec_zero] at e1
    exact h0 hs' e1.symm
  by_cases hh : has 47 u = true
  · obtain ⟨hd1, hd2, hd3, hc⟩ := hd hh
    obtain ⟨e2, l2, _⟩ := plain_spec hd1
    have hz : decVal (behind 47 u) ≠ 0 := by
      intro h; rw [h, dec_zero] at e2; exact hd2 e2.symm
    have h1 : decVal (behind 47 u) ≠ 1 := by
      intro h; rw [h] at e2; exact hd3 (by rw [← e2]; simp [dec, digs_pos (β := 10) (n := 1) (by omega) (by omega), digs_zero]; decide)
    rw [if_pos hh]
    obtain ⟨p1, p2⟩ := ratOf_parts (neg := s) hc hz
    have p3 : (ratOf s (decVal (ahead 47 u)) (decVal (behind 47 u))).num.natAbs = decVal (ahead 47 u) := by rw [p1]; cases s <;> simp
    refine ⟨?_, by unfold Short; rw [p2, p3, e1, e2]; exact ⟨l1, l2⟩⟩
    unfold fracText
    rw [p2, p3, e1, e2, if_neg h1, p1, hl]
    rw [List.append_assoc]
    congr 1
    · cases s with
      | false => rw [if_neg (by simp), if_neg (by simp)]
      | true => rw [if_pos rfl, if_pos rfl, if_pos (by have := hneg rfl; omega)]
    · exact cut_eq hh
  · rw [if_neg hh]
    have hh' : has 47 u = false := by simpa using hh
    have eu := ahead_none hh'
    obtain ⟨p1, p2⟩ := ratOf_parts (neg := s) (n := decVal (ahead 47 u)) (d := 1) (by simp) (by omega)
    have p3 : (ratOf s (decVal (ahead 47 u)) 1).num.natAbs = decVal (ahead 47 u) := by rw [p1]; cases s <;> simp
    refine ⟨?_, by
      unfold Short; rw [p2, p3, e1]
      exact ⟨l1, by simp [dec, digs_pos (β := 10) (n := 1) (by omega) (by omega), digs_zero]⟩⟩
    unfold fracText
    rw [p2, p3, e1, p1, hl, if_pos rfl, List.append_nil, eu]
    congr 1
    cases s with
    | false => rw [if_neg (by simp), if_neg (by simp)]
    | true => rw [if_pos rfl, if_pos rfl, if_pos (by have := hneg rfl; rw [eu] at this; omega)]
theorem dec_one : dec 1 = [49] := by simp [dec, digs_pos (β := 10) (n := 1) (by omega) (by omega), digs_zero]; decide
theorem parts_of_frac {l : List UInt8} {q : Rat} (h : IsFrac l q) :
    plainDigs (ahead 47 (unsigned l)) = true ∧ (signOf l = true → ahead 47 (unsigned l) ≠ [48]) ∧
    (has 47 (unsigned l) = true → plainDigs (behind 47 (unsigned l)) = true ∧ behind 47 (unsigned l) ≠ [48] ∧ behind 47 (unsigned l) ≠ [49] ∧
      ahead 47 (unsigned l) ≠ [48] ∧ Nat.Coprime (decVal (ahead 47 (unsigned l))) (decVal (behind 47 (unsigned l)))) ∧
    q = ratOf (signOf l) (decVal (ahead 47 (unsigned l))) (if has 47 (unsigned l) then decVal (behind 47 (unsigned l)) else 1) := by
  obtain ⟨h1, h2, h3, h4⟩ := frac_cut h.1
  have hsh := h.2
  have hz : dec q.num.natAbs = [48] → q.num = 0 := by
    intro e
    have : q.num.natAbs = 0 := dec_inj (e.trans dec_zero.symm)
    omega
  have hnum : q.num = if decide (q.num < 0) = true then -(q.num.natAbs : Int) else q.num.natAbs := by
    by_cases h0 : q.num < 0
    · simp [h0]; omega
    · simp [h0]; omega
  refine ⟨by rw [h2]; exact plain_dec hsh.1, ?_, ?_, ?_⟩
  · rw [h1, h2]
    intro h0 e
    have := hz e
    simp at h0
    omega
  · rw [h3]
    intro hd
    have hd' : q.den ≠ 1 := by simpa using hd
    rw [h2, h4 hd', decVal_dec, decVal_dec]
    refine ⟨plain_dec hsh.2, ?_, ?_, ?_, q.reduced⟩
    · intro e; exact q.den_nz (dec_inj (e.trans dec_zero.symm))
    · intro e; exact hd' (dec_inj (e.trans dec_one.symm))
    · intro e
      have h0 := hz e
      have := q.reduced
      rw [h0] at this
      simp at this
      exact hd' this
  · rw [h1, h2, h3, decVal_dec]
    by_cases hd : q.den = 1
    · have : decide (q.den ≠ 1) = false := by simp [hd]
      rw [this, if_neg (by simp), ratOf, ← hnum]
      conv => lhs; rw [← Rat.num_divInt_den q, hd]
    · have : decide (q.den ≠ 1) = true := by simp [hd]
      rw [this, if_pos rfl, h4 hd, decVal_dec, ratOf, ← hnum, Rat.num_divInt_den]
/-- What a text says, if it is a number. -/
def readFrac (l : List UInt8) : Option Rat :=
  let q := ratOf (signOf l) (decVal (ahead 47 (unsigned l))) (if has 47 (unsigned l) then decVal (behind 47 (unsigned l)) else 1)
  if l = fracText q ∧ Short 50000 q then some q else none
theorem readFrac_some {l : List UInt8} {q : Rat} : readFrac l = some q ↔ IsFrac l q := by
  unfold readFrac
  constructor
  · intro h
    simp only at h
    generalize ratOf (signOf l) (decVal (ahead 47 (unsigned l))) (if has 47 (unsigned l) then decVal (behind 47 (unsigned l)) else 1) = r at h
    split at h
    · rename_i h1; injection h with h; subst h; exact h1
    · cases h
  · intro h
    have e := (parts_of_frac h).2.2.2
    simp only
    rw [← e]
    exact if_pos h
theorem readFrac_none {l : List UInt8} : readFrac l = none ↔ ∀ q, ¬ IsFrac l q := by
  constructor
  · intro h q hq; rw [readFrac_some.2 hq] at h; cases h
  · intro h
    cases hr : readFrac l with
    | none => rfl
    | some q => exact absurd (readFrac_some.1 hr) (h q)
theorem readFrac_text {q : Rat} (h : Short 50000 q) : readFrac (fracText q) = some q := readFrac_some.2 ⟨rfl, h⟩
end Go.Proofs.YtdecgcdkaaiglaaGreat
namespace Go.Proofs.YtdecgcdkaaiglaaGreat
theorem read_no1 {l : List UInt8} (h : plainDigs (ahead 47 (unsigned l)) = false) : readFrac l = none := by
  rw [readFrac_none]
  intro q hq
  have := (parts_of_frac hq).1
  rw [h] at this; cases this
theorem read_no2 {l : List UInt8} (h : signOf l = true) (h0 : ahead 47 (unsigned l) = [48]) : readFrac l = none := by
  rw [readFrac_none]
  intro q hq
  exact (parts_of_frac hq).2.1 h h0
theorem read_no3 {l : List UInt8} (h : has 47 (unsigned l) = true) (h0 : plainDigs (behind 47 (unsigned l)) = false ∨ behind 47 (unsigned l) = [48] ∨ behind 47 (unsigned l) = [49] ∨ ahead 47 (unsigned l) = [48]) : readFrac l = none := by
  rw [readFrac_none]
  intro q hq
  obtain ⟨h1, h2, h3, h4, _⟩ := (parts_of_frac hq).2.2.1 h
  rcases h0 with h0 | h0 | h0 | h0
  · rw [h0] at h1; cases h1
  · exact h2 h0
  · exact h3 h0
  · exact h4 h0
theorem ratOf_one (s : Bool) (n : Nat) : (ratOf s n 1).num = (if s then -(n : Int) else n) ∧ (ratOf s n 1).den = 1 := ratOf_parts (by simp) (by omega)
theorem read_whole {l : List UInt8} (h : plainDigs (ahead 47 (unsigned l)) = true) (h0 : signOf l = true → ahead 47 (unsigned l) ≠ [48]) (hh : has 47 (unsigned l) = false) : readFrac l = some (ratOf (signOf l) (decVal (ahead 47 (unsigned l))) 1) := by
  rw [readFrac_some]
  have := frac_of_parts h h0 (by rw [hh]; intro h; cases h)
  rw [hh] at this
  simpa using this
theorem coprime_of_den {s : Bool} {n d : Nat} (hd : d ≠ 0) (h : (ratOf s n d).den = d) : Nat.Coprime n d := by
  unfold ratOf at h
  rw [Rat.den_divInt, if_neg (by omega)] at h
  have hg : (d : Int).gcd (if s then -(n : Int) else n) = Nat.gcd n d := by
    cases s <;> simp [Int.gcd, Nat.gcd_comm]
  rw [hg] at h
  have h1 : 0 < Nat.gcd n d := Nat.gcd_pos_of_pos_right _ (by omega)
  have h2 : Nat.gcd n d ∣ d := Nat.gcd_dvd_right n d
  obtain ⟨k, hk⟩ := h2
  have h3 : d / Nat.gcd n d = k := by
    conv => lhs; lhs; rw [hk]
    exact Nat.mul_div_cancel_left _ h1
  have h4 : (d : Int).natAbs = d := Int.natAbs_natCast d
  rw [h4, h3] at h
  have h5 : Nat.gcd n d * d = 1 * d := by rw [Nat.one_mul]; conv => lhs; rhs; rw [← h]
                                          exact hk.symm
  exact Nat.eq_of_mul_eq_mul_right (by omega) h5
theorem read_quot {l : List UInt8} (h : plainDigs (ahead 47 (unsigned l)) = true) (h0 : signOf l = true → ahead 47 (unsigned l) ≠ [48]) (hh : has 47 (unsigned l) = true)
    (h1 : plainDigs (behind 47 (unsigned l)) = true) (h2 : behind 47 (unsigned l) ≠ [48]) (h3 : behind 47 (unsigned l) ≠ [49]) :
    readFrac l = if (ratOf (signOf l) (decVal (ahead 47 (unsigned l))) (decVal (behind 47 (unsigned l)))).den = decVal (behind 47 (unsigned l)) then some (ratOf (signOf l) (decVal (ahead 47 (unsigned l))) (decVal (behind 47 (unsigned l)))) else none := by
  have hz : decVal (behind 47 (unsigned l)) ≠ 0 := by
    intro e
    have := (plain_spec h1).1
    rw [e, dec_zero] at this
    exact h2 this.symm
  split
  · rename_i hd
    rw [readFrac_some]
    have := frac_of_parts h h0 (fun _ => ⟨h1, h2, h3, coprime_of_den hz hd⟩)
    rw [hh] at this
    simpa using this
  · rename_i hd
    rw [readFrac_none]
    intro q hq
    apply hd
    exact (ratOf_parts ((parts_of_frac hq).2.2.1 hh).2.2.2.2 hz).2
theorem plain_ne_zero {l : List UInt8} (h1 : plainDigs l = true) (h2 : l ≠ [48]) : decVal l ≠ 0 := by
  intro e
  have := (plain_spec h1).1
  rw [e, dec_zero] at this
  exact h2 this.symm
theorem plain_len {l : List UInt8} (h : plainDigs l = true) : len 4294967296 (decVal l) ≤ 50000 := by
  obtain ⟨h1, h2, h3⟩ := plain_spec h
  have h4 := len_le_dec (β := 4294967296) (n := decVal l) (by omega)
  rw [h1] at h4
  omega
theorem plain_all {l : List UInt8} (h : plainDigs l = true) : l.all isDig = true ∧ l.length ≤ 50000 := by
  obtain ⟨h1, h2, h3⟩ := plain_spec h
  unfold isDigs at h3
  rw [Bool.and_eq_true] at h3
  exact ⟨h3.1, h2⟩
/-- as many digits to the base 2^32, at most, as decimal ones -/
theorem Short.len {M : Nat} {q : Rat} (h : Short M q) : Go.Proofs.YtdecgcdkaaiglaaGreat.len 4294967296 q.num.natAbs ≤ M ∧ Go.Proofs.YtdecgcdkaaiglaaGreat.len 4294967296 (q.den : Int).natAbs ≤ M :=
  ⟨Nat.le_trans (len_le_dec (by omega)) h.1, by rw [Int.natAbs_natCast]; exact Nat.le_trans (len_le_dec (by omega)) h.2⟩
end Go.Proofs.YtdecgcdkaaiglaaGreat
namespace Go.Proofs.YtdecgcdkaaiglaaGreat
theorem fracText_len {q : Rat} (h : Short 50000 q) : (fracText q).length ≤ 100002 := by
  obtain ⟨h1, h2⟩ := h
  unfold fracText
  rw [List.length_append, List.length_append]
  have e1 : (if q.num < 0 then ([45] : List UInt8) else []).length ≤ 1 := by split <;> simp
  have e2 : (if q.den = 1 then ([] : List UInt8) else 47 :: dec q.den).length ≤ 50001 := by split <;> simp; omega
  omega
end Go.Proofs.YtdecgcdkaaiglaaGreat
namespace Go.Proofs.YtdecgcdkaaiglaaGreat
/-- The sum of f over 0 .. n-1. -/
def sumTo (n : Nat) (f : Nat → Rat) : Rat := match n with
  | 0 => 0
  | n + 1 => sumTo n f + f n
theorem sumTo_zero (f : Nat → Rat) : sumTo 0 f = 0 := rfl
theorem sumTo_succ (n : Nat) (f : Nat → Rat) : sumTo (n + 1) f = sumTo n f + f n := rfl
theorem sumTo_congr {n : Nat} {f g : Nat → Rat} (h : ∀ k, k < n → f k = g k) : sumTo n f = sumTo n g := by
  induction n with
  | zero => rfl
  | succ n ih => rw [sumTo_succ, sumTo_succ, ih (fun k hk => h k (by omega)), h n (by omega)]
theorem sumTo_const0 (n : Nat) : sumTo n (fun _ => 0) = 0 := by
  induction n with
  | zero => rfl
  | succ n ih => rw [sumTo_succ, ih]; grind
theorem sumTo_add (n : Nat) (f g : Nat → Rat) : sumTo n (fun k => f k + g k) = sumTo n f + sumTo n g := by
  induction n with
  | zero => rw [sumTo_zero, sumTo_zero, sumTo_zero]; grind
  | succ n ih => rw [sumTo_succ, sumTo_succ, sumTo_succ, ih]; grind
theorem sumTo_sub (n : Nat) (f g : Nat → Rat) : sumTo n (fun k => f k - g k) = sumTo n f - sumTo n g := by
  induction n with
  | zero => rw [sumTo_zero, sumTo_zero, sumTo_zero]; grind
  | succ n ih => rw [sumTo_succ, sumTo_succ, sumTo_succ, ih]; grind
theorem sumTo_mul (n : Nat) (a : Rat) (f : Nat → Rat) : sumTo n (fun k => a * f k) = a * sumTo n f := by
  induction n with
  | zero => rw [sumTo_zero, sumTo_zero]; grind
  | succ n ih => rw [sumTo_succ, sumTo_succ, ih]; grind
theorem sumTo_neg (n : Nat) (f : Nat → Rat) : sumTo n (fun k => -(f k)) = -(sumTo n f) := by
  induction n with
  | zero => rw [sumTo_zero, sumTo_zero]; grind
  | succ n ih => rw [sumTo_succ, sumTo_succ, ih]; grind
theorem sumTo_swap (n m : Nat) (f : Nat → Nat → Rat) : sumTo n (fun i => sumTo m (f i)) = sumTo m (fun j => sumTo n (fun i => f i j)) := by
  induction n with
  | zero => simp only [sumTo_zero]; rw [sumTo_const0]
  | succ n ih => rw [sumTo_succ, ih, ← sumTo_add]; rfl
theorem sumTo_nonneg {n : Nat} {f : Nat → Rat} (h : ∀ k, k < n → 0 ≤ f k) : 0 ≤ sumTo n f := by
  induction n with
  | zero => rw [sumTo_zero]; grind
  | succ n ih => rw [sumTo_succ]; have := ih (fun k hk => h k (by omega)); have := h n (by omega); grind
theorem sumTo_le {n : Nat} {f g : Nat → Rat} (h : ∀ k, k < n → f k ≤ g k) : sumTo n f ≤ sumTo n g := by
  induction n with
  | zero => rw [sumTo_zero, sumTo_zero]; grind
  | succ n ih => rw [sumTo_succ, sumTo_succ]; have := ih (fun k hk => h k (by omega)); have := h n (by omega); grind
theorem sumTo_zero_of {n : Nat} {f : Nat → Rat} (h : ∀ k, k < n → 0 ≤ f k) (h0 : sumTo n f = 0) : ∀ k, k < n → f k = 0 := by
  induction n with
  | zero => intro k hk; omega
  | succ n ih =>
    rw [sumTo_succ] at h0
    have h1 := sumTo_nonneg (n := n) (f := f) (fun k hk => h k (by omega))
    have h2 := h n (by omega)
    intro k hk
    rcases Nat.lt_or_ge k n with h3 | h3
    · exact ih (fun k hk => h k (by omega)) (by grind) k h3
    · obtain rfl : k = n := by omega
      grind
theorem sumTo_one {n : Nat} {f : Nat → Rat} {j : Nat} (hj : j < n) (h : ∀ k, k < n → k ≠ j → f k = 0) : sumTo n f = f j := by
  induction n with
  | zero => omega
  | succ n ih =>
    rw [sumTo_succ]
    rcases Nat.lt_or_ge j n with h3 | h3
    · rw [ih h3 (fun k hk hne => h k (by omega) hne), h n (by omega) (by omega)]; grind
    · obtain rfl : j = n := by omega
      rw [sumTo_congr (g := fun _ => 0) (fun k hk => h k (by omega) (by omega)), sumTo_const0]; grind
theorem sumTo_two {n : Nat} {f : Nat → Rat} {i j : Nat} (hi : i < n) (hj : j < n) (hne : i ≠ j) (h : ∀ k, k < n → k ≠ i → k ≠ j → f k = 0) : sumTo n f = f i + f j := by
  have e : sumTo n f = sumTo n (fun k => (if k = i then f i else 0) + (if k = j then f j else 0)) := by
    apply sumTo_congr
    intro k hk
    by_cases h1 : k = i
    · subst h1; rw [if_pos rfl, if_neg hne]; grind
    · by_cases h2 : k = j
      · subst h2; rw [if_neg h1, if_pos rfl]; grind
      · rw [if_neg h1, if_neg h2, h k hk h1 h2]; grind
  rw [e, sumTo_add, sumTo_one hi (fun k _ hk => if_neg hk), sumTo_one hj (fun k _ hk => if_neg hk), if_pos rfl, if_pos rfl]
/-- A table of numbers: rows of m unknowns, and behind them what they come to. -/
abbrev Tab := Nat → Nat → Rat
/-- x solves the rows. -/
def Solves (m : Nat) (A : Tab) (x : Nat → Rat) : Prop := ∀ i, i < m → sumTo m (fun c => A i c * x c) = A i m
/-- The rows have at most one solution. -/
def Only (m : Nat) (A : Tab) : Prop := ∀ x : Nat → Rat, (∀ i, i < m → sumTo m (fun c => A i c * x c) = 0) → ∀ c, c < m → x c = 0
theorem Only.unique {m : Nat} {A : Tab} (h : Only m A) {x y : Nat → Rat} (hx : Solves m A x) (hy : Solves m A y) : ∀ c, c < m → x c = y c := by
  intro c hc
  have := h (fun c => x c - y c) (fun i hi => by
    have e : sumTo m (fun c => A i c * (x c - y c)) = sumTo m (fun c => A i c * x c - A i c * y c) := sumTo_congr (fun k _ => by grind)
    rw [e, sumTo_sub, hx i hi, hy i hi]; grind) c hc
  grind
/-- The first k columns are brought out. -/
def Clear (m k : Nat) (A : Tab) : Prop := ∀ j, j < k → A j j ≠ 0 ∧ ∀ i, i < m → i ≠ j → A i j = 0
/-- Two rows change places. -/
def swapped (A : Tab) (k p : Nat) : Tab := fun i => if i = k then A p else if i = p then A k else A i
/-- The rows ahead of n, but row k, are freed of column k. -/
def freed (A : Tab) (k n : Nat) : Tab := fun i c => if i < n ∧ i ≠ k then A i c - A i k / A k k * A k c else A i c
/-- In column k is something at row k or behind it. -/
theorem pivot {m k : Nat} {A : Tab} (hO : Only m A) (hC : Clear m k A) (hk : k < m) : ∃ p, k ≤ p ∧ p < m ∧ A p k ≠ 0 := by
  apply Classical.byContradiction
  intro hno
  have h0 : ∀ p, k ≤ p → p < m → A p k = 0 := fun p h1 h2 => Classical.byContradiction fun h3 => hno ⟨p, h1, h2, h3⟩
  have := hO (fun c => if c < k then -(A c k / A c c) else if c = k then 1 else 0) (fun i hi => by
    by_cases hik : i < k
    · rw [sumTo_two (i := i) (j := k) hi hk (by omega)]
      · rw [if_pos hik, if_neg (by omega), if_pos rfl]
        have := (hC i hik).1
        grind
      · intro c hc h1 h2
        by_cases hck : c < k
        · rw [(hC c hck).2 i hi (by omega)]; grind
        · rw [if_neg hck, if_neg h2]; grind
    · rw [sumTo_one (j := k) hk]
      · rw [h0 i (by omega) hi]; grind
      · intro c hc h1
        by_cases hck : c < k
        · rw [(hC c hck).2 i hi (by omega)]; grind
        · rw [if_neg hck, if_neg h1]; grind) k hk
  rw [if_neg (by omega), if_pos rfl] at this
  exact absurd this (by grind)
theorem Only.swapped {m k p : Nat} {A : Tab} (h : Only m A) (hk : k < m) (hp : p < m) : Only m (swapped A k p) := by
  intro x hx
  apply h x
  intro i hi
  by_cases h1 : i = k
  · subst h1
    have := hx p hp
    unfold Go.Proofs.YtdecgcdkaaiglaaGreat.swapped at this
    by_cases h2 : p = i
    · subst h2; simpa using this
    · simpa [h2] using this
  · by_cases h2 : i = p
    · subst h2
      have := hx k hk
      simpa [Go.Proofs.YtdecgcdkaaiglaaGreat.swapped] using this
    · have := hx i hi
      simpa [Go.Proofs.YtdecgcdkaaiglaaGreat.swapped, h1, h2] using this
theorem Solves.unswap {m k p : Nat} {A : Tab} {x : Nat → Rat} (hx : Solves m (swapped A k p) x) (hk : k < m) (hp : p < m) : Solves m A x := by
  intro i hi
  by_cases h1 : i = k
  · subst h1
    have := hx p hp
    unfold swapped at this
    by_cases h2 : p = i
    · subst h2; simpa using this
    · simpa [h2] using this
  · by_cases h2 : i = p
    · subst h2
      have := hx k hk
      simpa [swapped] using this
    · have := hx i hi
      simpa [swapped, h1, h2] using this
theorem Clear.swapped {m k p : Nat} {A : Tab} (h : Clear m k A) (hp : k ≤ p) (hpm : p < m) : Clear m k (swapped A k p) := by
  intro j hj
  unfold Go.Proofs.YtdecgcdkaaiglaaGreat.swapped
  refine ⟨?_, fun i hi hne => ?_⟩
  · rw [if_neg (by omega), if_neg (by omega)]; exact (h j hj).1
  · by_cases h1 : i = k
    · rw [if_pos h1]; exact (h j hj).2 p hpm (by omega)
    · rw [if_neg h1]
      by_cases h2 : i = p
      · rw [if_pos h2]; exact (h j hj).2 k (by omega) (by omega)
      · rw [if_neg h2]; exact (h j hj).2 i hi hne
theorem freed_sum {m k n : Nat} {A : Tab} (x : Nat → Rat) (i : Nat) (h : i < n ∧ i ≠ k) :
    sumTo m (fun c => freed A k n i c * x c) = sumTo m (fun c => A i c * x c) - A i k / A k k * sumTo m (fun c => A k c * x c) := by
  rw [← sumTo_mul, ← sumTo_sub]
  apply sumTo_congr
  intro c _
  unfold freed
  rw [if_pos h]; grind
theorem freed_keep {k n : Nat} {A : Tab} (i : Nat) (h : ¬ (i < n ∧ i ≠ k)) : freed A k n i = A i := by
  funext c; unfold freed; rw [if_neg h]
theorem Only.freed {m k n : Nat} {A : Tab} (h : Only m A) (hk : k < m) : Only m (freed A k n) := by
  intro x hx
  apply h x
  intro i hi
  have h1 := hx k hk
  rw [freed_keep k (by omega)] at h1
  have h2 := hx i hi
  by_cases h3 : i < n ∧ i ≠ k
  · rw [freed_sum x i h3, h1] at h2
    grind
  · rwa [freed_keep i h3] at h2
theorem Solves.unfree {m k n : Nat} {A : Tab} {x : Nat → Rat} (hx : Solves m (freed A k n) x) (hk : k < m) : Solves m A x := by
  intro i hi
  have h1 := hx k hk
  rw [freed_keep k (by omega)] at h1
  have h2 := hx i hi
  by_cases h3 : i < n ∧ i ≠ k
  · rw [freed_sum x i h3, h1] at h2
    unfold freed at h2
    rw [if_pos h3] at h2
    grind
  · rwa [freed_keep i h3] at h2
theorem Clear.freed {m k : Nat} {A : Tab} (h : Clear m k A) (hk : k < m) (h0 : A k k ≠ 0) : Clear m (k + 1) (freed A k m) := by
  intro j hj
  unfold Go.Proofs.YtdecgcdkaaiglaaGreat.freed
  refine ⟨?_, fun i hi hne => ?_⟩
  · by_cases h1 : j = k
    · subst h1; rw [if_neg (by omega)]; exact h0
    · rw [if_pos ⟨by omega, h1⟩, (h j (by omega)).2 k hk (by omega)]
      have := (h j (by omega)).1
      grind
  · by_cases h1 : i = k
    · subst h1
      rw [if_neg (by omega)]
      exact (h j (by omega)).2 i hi hne
    · rw [if_pos ⟨hi, h1⟩]
      by_cases h2 : j = k
      · subst h2; grind
      · rw [(h j (by omega)).2 i hi hne, (h j (by omega)).2 k hk (by omega)]; grind
/-- what the diagonal gives -/
theorem Clear.solves {m : Nat} {A : Tab} (h : Clear m m A) : Solves m A (fun c => A c m / A c c) := by
  intro i hi
  rw [sumTo_one (j := i) hi]
  · have := (h i hi).1
    grind
  · intro c hc hne
    rw [(h c hc).2 i hi (by omega)]; grind
/-- Every number of the rows is one above its row's number below, both within bounds. -/
def Held (m : Nat) (A : Tab) (C S : Nat) : Prop := ∃ (M : Nat → Nat → Int) (s : Nat → Int), ∀ i, i < m → s i ≠ 0 ∧ (s i).natAbs ≤ S ∧ ∀ c, c ≤ m → A i c * s i = M i c ∧ (M i c).natAbs ≤ C
theorem Held.swapped {m k p C S : Nat} {A : Tab} (h : Held m A C S) (hk : k < m) (hp : p < m) : Held m (swapped A k p) C S := by
  obtain ⟨M, s, h⟩ := h
  refine ⟨fun i => if i = k then M p else if i = p then M k else M i, fun i => if i = k then s p else if i = p then s k else s i, fun i hi => ?_⟩
  unfold Go.Proofs.YtdecgcdkaaiglaaGreat.swapped
  by_cases h1 : i = k
  · simp only [h1, if_true]; exact h p hp
  · by_cases h2 : i = p
    · by_cases h3 : p = k
      · omega
      · simp only [h2, h3, if_true, if_false]; exact h k hk
    · simp only [h1, h2, if_false]; exact h i hi
theorem cast_ne {a : Int} (h : a ≠ 0) : (a : Rat) ≠ 0 := by
  intro e
  exact h (by exact_mod_cast e)
theorem freed_eq {a b c d : Rat} {s t m1 m2 m3 m4 : Int} (ht : t ≠ 0) (h1 : a * s = m1) (h2 : b * s = m2) (h3 : c * t = m3) (h4 : d * t = m4) (h0 : c ≠ 0) :
    (a - b / c * d) * ((s * m3 : Int) : Rat) = ((m3 * m1 - m2 * m4 : Int) : Rat) := by
  have := cast_ne ht
  push_cast
  rw [← h1, ← h2, ← h3, ← h4]
  grind
theorem Held.freed {m k n C S : Nat} {A : Tab} (h : Held m A C S) (hk : k < m) (h0 : A k k ≠ 0) (hn : n ≤ m) : Held m (freed A k n) (2 * C * C) (S * C + S) := by
  obtain ⟨M, s, h⟩ := h
  obtain ⟨k1, k2, k3⟩ := h k hk
  obtain ⟨k4, k5⟩ := k3 k (by omega)
  have hMk : M k k ≠ 0 := by
    intro e
    rw [e] at k4
    have := cast_ne k1
    have e0 : ((0 : Int) : Rat) = 0 := rfl
    rw [e0] at k4
    grind
  have hC : 0 < C := by omega
  have hCC : C ≤ 2 * C * C := by
    calc C ≤ C * C := Nat.le_mul_of_pos_left _ hC
      _ ≤ 2 * C * C := by rw [Nat.mul_assoc]; omega
  refine ⟨fun i c => if i < n ∧ i ≠ k then M k k * M i c - M i k * M k c else M i c, fun i => if i < n ∧ i ≠ k then s i * M k k else s i, fun i hi => ?_⟩
  obtain ⟨j1, j2, j3⟩ := h i hi
  unfold Go.Proofs.YtdecgcdkaaiglaaGreat.freed
  by_cases hc : i < n ∧ i ≠ k
  · simp only [hc, if_true, not_false_eq_true, and_self, ne_eq]
    refine ⟨Int.mul_ne_zero j1 hMk, ?_, fun c hcm => ⟨?_, ?_⟩⟩
    · rw [Int.natAbs_mul]
      have := Nat.mul_le_mul j2 k5
      omega
    · exact freed_eq k1 (j3 c hcm).1 (j3 k (by omega)).1 k4 (k3 c hcm).1 h0
    · have e1 : (M k k * M i c - M i k * M k c).natAbs ≤ (M k k).natAbs * (M i c).natAbs + (M i k).natAbs * (M k c).natAbs := by
        rw [← Int.natAbs_mul, ← Int.natAbs_mul]; omega
      have e2 := Nat.mul_le_mul k5 (j3 c hcm).2
      have e3 := Nat.mul_le_mul (j3 k (by omega)).2 (k3 c hcm).2
      rw [Nat.mul_assoc]
      omega
  · simp only [hc, if_false]
    refine ⟨j1, by omega, fun c hcm => ⟨(j3 c hcm).1, ?_⟩⟩
    have := (j3 c hcm).2
    omega
end Go.Proofs.YtdecgcdkaaiglaaGreat
namespace Go.Proofs.YtdecgcdkaaiglaaGreat
/-- What the pipes ahead of n take away from node k, at heads h. -/
def flowTo (n : Nat) (pf pt : Nat → Nat) (c : Nat → Rat) (h : Nat → Rat) (k : Nat) : Rat :=
  sumTo n (fun i => (if pf i = k then c i * (h (pf i) - h (pt i)) else 0) + (if pt i = k then c i * (h (pt i) - h (pf i)) else 0))
theorem flowTo_zero (pf pt : Nat → Nat) (c h : Nat → Rat) (k : Nat) : flowTo 0 pf pt c h k = 0 := rfl
theorem flowTo_succ (n : Nat) (pf pt : Nat → Nat) (c h : Nat → Rat) (k : Nat) : flowTo (n + 1) pf pt c h k = flowTo n pf pt c h k + ((if pf n = k then c n * (h (pf n) - h (pt n)) else 0) + (if pt n = k then c n * (h (pt n) - h (pf n)) else 0)) := rfl
theorem flowTo_sub (n : Nat) (pf pt : Nat → Nat) (c g h : Nat → Rat) (k : Nat) : flowTo n pf pt c (fun j => g j - h j) k = flowTo n pf pt c g k - flowTo n pf pt c h k := by
  unfold flowTo
  rw [← sumTo_sub]
  apply sumTo_congr
  intro i _
  by_cases h1 : pf i = k <;> by_cases h2 : pt i = k <;> simp only [h1, h2, if_true, if_false] <;> grind
theorem flowTo_neg (n : Nat) (pf pt : Nat → Nat) (c g : Nat → Rat) (k : Nat) : flowTo n pf pt c (fun j => -(g j)) k = -(flowTo n pf pt c g k) := by
  unfold flowTo
  rw [← sumTo_neg]
  apply sumTo_congr
  intro i _
  by_cases h1 : pf i = k <;> by_cases h2 : pt i = k <;> simp only [h1, h2, if_true, if_false] <;> grind
theorem flowTo_congr {n : Nat} {pf pt : Nat → Nat} {c g h : Nat → Rat} {k : Nat} (e : ∀ i, i < n → g (pf i) = h (pf i) ∧ g (pt i) = h (pt i)) : flowTo n pf pt c g k = flowTo n pf pt c h k := by
  unfold flowTo
  apply sumTo_congr
  intro i hi
  rw [(e i hi).1, (e i hi).2]
/-- Nodes that pipes join to nodes of S. -/
inductive Joined (np : Nat) (pf pt : Nat → Nat) (S : Nat → Prop) : Nat → Prop
  | base {k : Nat} : S k → Joined np pf pt S k
  | right {i : Nat} : i < np → Joined np pf pt S (pf i) → Joined np pf pt S (pt i)
  | left {i : Nat} : i < np → Joined np pf pt S (pt i) → Joined np pf pt S (pf i)
theorem argmax (g : Nat → Rat) (N : Nat) (hN : 0 < N) : ∃ k, k < N ∧ ∀ j, j < N → g j ≤ g k := by
  induction N with
  | zero => omega
  | succ N ih =>
    rcases Nat.eq_zero_or_pos N with h0 | h0
    · subst h0
      exact ⟨0, by omega, fun j hj => by obtain rfl : j = 0 := by omega
                                         grind⟩
    · obtain ⟨k, hk, h⟩ := ih h0
      by_cases h1 : g N ≤ g k
      · refine ⟨k, by omega, fun j hj => ?_⟩
        rcases Nat.lt_or_ge j N with h2 | h2
        · exact h j h2
        · obtain rfl : j = N := by omega
          exact h1
      · refine ⟨N, by omega, fun j hj => ?_⟩
        rcases Nat.lt_or_ge j N with h2 | h2
        · have := h j h2; grind
        · obtain rfl : j = N := by omega
          grind
/-- A net's pipes are between nodes, and conduct. -/
structure Piped (N np : Nat) (pf pt : Nat → Nat) (c : Nat → Rat) : Prop where
  from_lt : ∀ i, i < np → pf i < N
  to_lt : ∀ i, i < np → pt i < N
  ne : ∀ i, i < np → pf i ≠ pt i
  pos : ∀ i, i < np → 0 < c i
theorem flow_terms {np : Nat} {pf pt : Nat → Nat} {c g : Nat → Rat} {N j : Nat} (hp : Piped N np pf pt c) (hmax : ∀ k, k < N → g k ≤ g j) (hf : flowTo np pf pt c g j = 0) :
    ∀ i, i < np → (pf i = j → g (pt i) = g j) ∧ (pt i = j → g (pf i) = g j) := by
  intro i hi
  have hz := sumTo_zero_of (fun k hk => ?_) hf i hi
  · have hc := hp.pos i hi
    have hne := hp.ne i hi
    refine ⟨fun h => ?_, fun h => ?_⟩
    · subst h
      rw [if_pos rfl, if_neg (by omega)] at hz
      grind
    · subst h
      rw [if_neg (by omega), if_pos rfl] at hz
      grind
  · have hc := hp.pos k hk
    have h1 := hmax _ (hp.from_lt k hk)
    have h2 := hmax _ (hp.to_lt k hk)
    have hne := hp.ne k hk
    by_cases h3 : pf k = j
    · rw [if_pos h3, if_neg (by omega), h3]
      have := Rat.mul_nonneg (a := c k) (b := g j - g (pt k)) (by grind) (by grind)
      grind
    · rw [if_neg h3]
      by_cases h4 : pt k = j
      · rw [if_pos h4, h4]
        have := Rat.mul_nonneg (a := c k) (b := g j - g (pf k)) (by grind) (by grind)
        grind
      · rw [if_neg h4]; grind
theorem harmonic_le {N np : Nat} {pf pt : Nat → Nat} {c g : Nat → Rat} {S F : Nat → Prop} (hp : Piped N np pf pt c) (hS : ∀ k, S k → ¬ F k)
    (h0 : ∀ k, k < N → ¬ F k → g k = 0) (hf : ∀ k, k < N → F k → flowTo np pf pt c g k = 0) (hj : ∀ k, k < N → F k → Joined np pf pt S k) (hSN : ∀ k, S k → k < N) :
    ∀ k, k < N → g k ≤ 0 := by
  intro k hk
  obtain ⟨m, hm, hmax⟩ := argmax g N (by omega)
  apply Classical.byContradiction
  intro hpos
  have hM : 0 < g m := by have := hmax k hk; grind
  have hmF : F m := Classical.byContradiction fun h => by have := h0 m hm h; grind
  have hne : ∀ j, Joined np pf pt S j → g j ≠ g m := by
    intro j hJ
    induction hJ with
    | base hs =>
      intro e
      have := h0 _ (hSN _ hs) (hS _ hs)
      grind
    | @right i hi hJ ih =>
      intro e
      have hF : F (pt i) := Classical.byContradiction fun h => by have := h0 _ (hp.to_lt i hi) h; grind
      have h1 := flow_terms hp (j := pt i) (fun k hk => by rw [e]; exact hmax k hk) (hf _ (hp.to_lt i hi) hF) i hi
      exact ih ((h1.2 rfl).trans e)
    | @left i hi hJ ih =>
      intro e
      have hF : F (pf i) := Classical.byContradiction fun h => by have := h0 _ (hp.from_lt i hi) h; grind
      have h1 := flow_terms hp (j := pf i) (fun k hk => by rw [e]; exact hmax k hk) (hf _ (hp.from_lt i hi) hF) i hi
      exact ih ((h1.1 rfl).trans e)
  exact hne m (hj m hm hmF) rfl
/-- Heads that are 0 where they are fixed and lose nothing elsewhere are 0. -/
theorem harmonic_zero {N np : Nat} {pf pt : Nat → Nat} {c g : Nat → Rat} {S F : Nat → Prop} (hp : Piped N np pf pt c) (hS : ∀ k, S k → ¬ F k)
    (h0 : ∀ k, k < N → ¬ F k → g k = 0) (hf : ∀ k, k < N → F k → flowTo np pf pt c g k = 0) (hj : ∀ k, k < N → F k → Joined np pf pt S k) (hSN : ∀ k, S k → k < N) :
    ∀ k, k < N → g k = 0 := by
  intro k hk
  have h1 := harmonic_le hp hS h0 hf hj hSN k hk
  have h2 := harmonic_le (g := fun j => -(g j)) hp hS (fun k hk h => by rw [h0 k hk h]; rfl) (fun k hk h => by rw [flowTo_neg, hf k hk h]; rfl) hj hSN k hk
  grind
/-- The heads of a net: given where fixed, 0 where not asked for, and otherwise what flows away is less what is taken out. -/
def IsHeads (N np : Nat) (pf pt : Nat → Nat) (c : Nat → Rat) (fx : Nat → Option Rat) (wl : Nat → Rat) (asked : Nat → Bool) (h : Nat → Rat) : Prop :=
  ∀ k, k < N → match fx k with
    | some v => h k = v
    | none => if asked k = true then flowTo np pf pt c h k = -(wl k) else h k = 0
/-- Nodes that are neither fixed nor unasked. -/
def Free (fx : Nat → Option Rat) (asked : Nat → Bool) (k : Nat) : Prop := fx k = none ∧ asked k = true
/-- All free nodes are joined to fixed ones. -/
def Tied (N np : Nat) (pf pt : Nat → Nat) (fx : Nat → Option Rat) (asked : Nat → Bool) : Prop := ∀ k, k < N → Free fx asked k → Joined np pf pt (fun j => j < N ∧ fx j ≠ none) k
theorem IsHeads.unique {N np : Nat} {pf pt : Nat → Nat} {c : Nat → Rat} {fx : Nat → Option Rat} {wl : Nat → Rat} {asked : Nat → Bool} {g h : Nat → Rat}
    (hp : Piped N np pf pt c) (ht : Tied N np pf pt fx asked) (hg : IsHeads N np pf pt c fx wl asked g) (hh : IsHeads N np pf pt c fx wl asked h) : ∀ k, k < N → g k = h k := by
  intro k hk
  have := harmonic_zero (g := fun j => g j - h j) (S := fun j => j < N ∧ fx j ≠ none) (F := Free fx asked) hp (fun j hj hf => hj.2 hf.1) (fun j hj hf => by
    have h1 := hg j hj
    have h2 := hh j hj
    cases hx : fx j with
    | some v => rw [hx] at h1 h2; simp only at h1 h2; grind
    | none =>
      rw [hx] at h1 h2
      have : ¬ asked j = true := fun e => hf ⟨hx, e⟩
      simp only [this] at h1 h2
      grind) (fun j hj hf => by
    have h1 := hg j hj
    have h2 := hh j hj
    rw [hf.1] at h1 h2
    simp only [hf.2, if_true] at h1 h2
    rw [flowTo_sub, h1, h2]; grind) ht (fun j hj => hj.1) k hk
  grind
/-- What a row of a table says of x. -/
def lin (m : Nat) (A : Tab) (i : Nat) (x : Nat → Rat) : Rat := sumTo m (fun c => A i c * x c) - A i m
/-- One number of a table is made greater. -/
def bumped (A : Tab) (i c : Nat) (d : Rat) : Tab := fun i' c' => if i' = i ∧ c' = c then A i c + d else A i' c'
theorem lin_bumped {m : Nat} {A : Tab} {i c : Nat} {d : Rat} (i' : Nat) (x : Nat → Rat) (hc : c ≤ m) :
    lin m (bumped A i c d) i' x = lin m A i' x + (if i' = i then (if c = m then -d else d * x c) else 0) := by
  unfold lin bumped
  by_cases h1 : i' = i
  · subst h1
    by_cases h2 : c = m
    · subst h2
      have e : sumTo c (fun c' => (if i' = i' ∧ c' = c then A i' c + d else A i' c') * x c') = sumTo c (fun c' => A i' c' * x c') := sumTo_congr (fun k hk => by rw [if_neg (by omega)])
      rw [e]
      simp only [and_self, if_true]
      grind
    · have e : sumTo m (fun c' => (if i' = i' ∧ c' = c then A i' c + d else A i' c') * x c') = sumTo m (fun c' => A i' c' * x c' + (if c' = c then d * x c else 0)) := by
        apply sumTo_congr
        intro k hk
        by_cases h3 : k = c
        · subst h3; simp only [and_self, if_true]; grind
        · rw [if_neg (fun h => h3 h.2), if_neg h3]; grind
      have e2 : sumTo m (fun c' => if c' = c then d * x c else 0) = d * x c := by rw [sumTo_one (j := c) (by omega) (fun k _ hk => if_neg hk), if_pos rfl]
      rw [e, sumTo_add, e2, if_neg (fun h => h2 h.2.symm), if_pos rfl, if_neg h2]
      grind
  · have e : sumTo m (fun c' => (if i' = i ∧ c' = c then A i c + d else A i' c') * x c') = sumTo m (fun c' => A i' c' * x c') := sumTo_congr (fun k hk => by rw [if_neg (fun h => h1 h.1)])
    rw [e, if_neg (fun h => h1 h.1), if_neg h1]
    grind
theorem solves_iff_lin {m : Nat} {A : Tab} {x : Nat → Rat} : Solves m A x ↔ ∀ i, i < m → lin m A i x = 0 := by
  unfold Solves lin
  constructor
  · intro h i hi
    rw [h i hi]; grind
  · intro h i hi
    have := h i hi
    grind
theorem only_of_lin {m : Nat} {A : Tab} (h : ∀ x y : Nat → Rat, (∀ i, i < m → lin m A i x = lin m A i y) → ∀ c, c < m → x c = y c) : Only m A := by
  intro x hx c hc
  refine h x (fun _ => 0) (fun i hi => ?_) c hc
  unfold lin
  rw [hx i hi]
  have e : sumTo m (fun c => A i c * 0) = sumTo m (fun _ => 0) := sumTo_congr (fun k _ => by grind)
  rw [e, sumTo_const0]
end Go.Proofs.YtdecgcdkaaiglaaGreat
namespace Go.Proofs.YtdecgcdkaaiglaaGreat
/-- A number's parts are at most X. -/
def Sz (X : Nat) (q : Rat) : Prop := q.num.natAbs ≤ X ∧ q.den ≤ X
theorem Sz.mono {X Y : Nat} {q : Rat} (h : Sz X q) (hXY : X ≤ Y) : Sz Y q := ⟨Nat.le_trans h.1 hXY, Nat.le_trans h.2 hXY⟩
theorem sz_of {X : Nat} {q : Rat} {s M : Int} (hs : s ≠ 0) (h : q * s = M) (h1 : M.natAbs ≤ X) (h2 : s.natAbs ≤ X) : Sz X q := by
  have e : q = Rat.divInt M s := by
    have h3 := cast_ne hs
    rw [Rat.divInt_eq_div, ← h]
    grind
  have hg : (s.gcd M : Int) ∣ s.sign * M := Int.dvd_trans (Int.gcd_dvd_right s M) (Int.dvd_mul_left _ _)
  have hg0 : 0 < s.gcd M := Int.gcd_pos_of_ne_zero_left _ hs
  have hsn : (s.sign * M).natAbs ≤ M.natAbs := by
    rw [Int.natAbs_mul, Int.natAbs_sign, if_neg hs]; omega
  constructor
  · rw [e, Rat.num_divInt]
    obtain ⟨t, ht⟩ := hg
    rw [ht, Int.mul_ediv_cancel_left _ (by omega)]
    rw [ht, Int.natAbs_mul] at hsn
    have h3 : t.natAbs ≤ (s.gcd M : Int).natAbs * t.natAbs := Nat.le_mul_of_pos_left _ (by simpa using hg0)
    omega
  · rw [e, Rat.den_divInt, if_neg hs]
    exact Nat.le_trans (Nat.div_le_self _ _) h2
theorem den_cast_ne (q : Rat) : ((q.den : Int) : Rat) ≠ 0 := cast_ne (by have := q.den_nz; omega)
theorem mul_den (q : Rat) : q * ((q.den : Int) : Rat) = (q.num : Rat) := by
  have h := den_cast_ne q
  conv => lhs; lhs; rw [← Rat.num_divInt_den q]
  rw [Rat.divInt_eq_div]
  grind
theorem Sz.zero : Sz 1 0 := ⟨by decide, by decide⟩
theorem Sz.one : Sz 1 1 := ⟨by decide, by decide⟩
theorem Sz.neg {X : Nat} {q : Rat} (h : Sz X q) : Sz X (-q) := ⟨by rw [Rat.neg_num, Int.natAbs_neg]; exact h.1, by rw [Rat.neg_den]; exact h.2⟩
theorem Sz.mul {X Y : Nat} {p q : Rat} (hp : Sz X p) (hq : Sz Y q) : Sz (X * Y) (p * q) := by
  refine sz_of (s := (p.den : Int) * q.den) (M := p.num * q.num) (Int.mul_ne_zero (by have := p.den_nz; omega) (by have := q.den_nz; omega)) ?_ ?_ ?_
  · have h1 := mul_den p
    have h2 := mul_den q
    push_cast at h1 h2 ⊢
    rw [← h1, ← h2]; grind
  · rw [Int.natAbs_mul]; exact Nat.mul_le_mul hp.1 hq.1
  · rw [Int.natAbs_mul]; exact Nat.mul_le_mul (by simpa using hp.2) (by simpa using hq.2)
theorem Sz.add {X Y : Nat} {p q : Rat} (hp : Sz X p) (hq : Sz Y q) : Sz (2 * (X * Y)) (p + q) := by
  refine sz_of (s := (p.den : Int) * q.den) (M := p.num * q.den + q.num * p.den) (Int.mul_ne_zero (by have := p.den_nz; omega) (by have := q.den_nz; omega)) ?_ ?_ ?_
  · have h1 := mul_den p
    have h2 := mul_den q
    push_cast at h1 h2 ⊢
    rw [← h1, ← h2]; grind
  · have h1 : (p.num * q.den + q.num * p.den).natAbs ≤ (p.num * q.den).natAbs + (q.num * p.den).natAbs := by omega
    rw [Int.natAbs_mul, Int.natAbs_mul] at h1
    have h2 := Nat.mul_le_mul hp.1 (show (q.den : Int).natAbs ≤ Y by simpa using hq.2)
    have h3 := Nat.mul_le_mul hq.1 (show (p.den : Int).natAbs ≤ X by simpa using hp.2)
    rw [Nat.mul_comm Y X] at h3
    omega
  · rw [Int.natAbs_mul]
    have := Nat.mul_le_mul (show (p.den : Int).natAbs ≤ X by simpa using hp.2) (show (q.den : Int).natAbs ≤ Y by simpa using hq.2)
    omega
theorem Sz.sub {X Y : Nat} {p q : Rat} (hp : Sz X p) (hq : Sz Y q) : Sz (2 * (X * Y)) (p - q) := by rw [Rat.sub_eq_add_neg]; exact hp.add hq.neg
theorem Sz.short {X e : Nat} {q : Rat} (h : Sz X q) (hX : X < 10 ^ e) (he : 0 < e) : Short e q := ⟨dec_length_le (by have := h.1; omega) he, dec_length_le (by have := h.2; omega) he⟩
theorem Short.sz {e : Nat} {q : Rat} (h : Short e q) : Sz (10 ^ e) q := ⟨Nat.le_of_lt (lt_of_dec_length h.1), Nat.le_of_lt (lt_of_dec_length h.2)⟩
/-- so many digits, at most -/
abbrev Dz (e : Nat) (q : Rat) : Prop := Sz (10 ^ e) q
theorem Dz.add {e f g : Nat} {p q : Rat} (hp : Dz e p) (hq : Dz f q) (hg : e + f + 1 ≤ g) : Dz g (p + q) := by
  refine (Sz.add hp hq).mono ?_
  have h1 : 10 ^ (e + f + 1) ≤ 10 ^ g := Nat.pow_le_pow_right (by omega) hg
  rw [Nat.pow_succ, Nat.pow_add] at h1
  omega
theorem Dz.sub {e f g : Nat} {p q : Rat} (hp : Dz e p) (hq : Dz f q) (hg : e + f + 1 ≤ g) : Dz g (p - q) := by rw [Rat.sub_eq_add_neg]; exact Dz.add hp (Sz.neg hq) hg
theorem Dz.mul {e f g : Nat} {p q : Rat} (hp : Dz e p) (hq : Dz f q) (hg : e + f ≤ g) : Dz g (p * q) := by
  refine (Sz.mul hp hq).mono ?_
  rw [← Nat.pow_add]
  exact Nat.pow_le_pow_right (by omega) hg
theorem Dz.more {e f : Nat} {q : Rat} (h : Dz e q) (hf : e ≤ f) : Dz f q := h.mono (Nat.pow_le_pow_right (by omega) hf)
theorem Dz.short {e f : Nat} {q : Rat} (h : Dz e q) (hf : e < f) : Short f q := Sz.short h (Nat.pow_lt_pow_right (by omega) hf) (by omega)
theorem Dz.zero (e : Nat) : Dz e 0 := Sz.zero.mono (Nat.pow_pos (by omega))
theorem Dz.one (e : Nat) : Dz e 1 := Sz.one.mono (Nat.pow_pos (by omega))
/-- the product of f over 0 .. n-1 -/
def prodTo (n : Nat) (f : Nat → Nat) : Nat := match n with
  | 0 => 1
  | n + 1 => prodTo n f * f n
theorem prodTo_pos {n : Nat} {f : Nat → Nat} (h : ∀ k, k < n → 0 < f k) : 0 < prodTo n f := by
  induction n with
  | zero => exact Nat.one_pos
  | succ n ih => unfold prodTo; exact Nat.mul_pos (ih fun k hk => h k (by omega)) (h n (by omega))
theorem prodTo_le {n X : Nat} {f : Nat → Nat} (h : ∀ k, k < n → f k ≤ X) : prodTo n f ≤ X ^ n := by
  induction n with
  | zero => exact Nat.le_refl _
  | succ n ih => unfold prodTo; rw [Nat.pow_succ]; exact Nat.mul_le_mul (ih fun k hk => h k (by omega)) (h n (by omega))
/-- The bound behind k columns. -/
theorem Held.mono {m C S C' S' : Nat} {A : Tab} (h : Held m A C S) (hC : C ≤ C') (hS : S ≤ S') : Held m A C' S' := by
  obtain ⟨M, s, h⟩ := h
  exact ⟨M, s, fun i hi => ⟨(h i hi).1, Nat.le_trans (h i hi).2.1 hS, fun c hc => ⟨((h i hi).2.2 c hc).1, Nat.le_trans ((h i hi).2.2 c hc).2 hC⟩⟩⟩
/-- rows within Z / 2 -/
def HeldZ (m : Nat) (A : Tab) (Z : Nat) : Prop := ∃ X, 2 * X ≤ Z ∧ Held m A X X
theorem HeldZ.swapped {m k p Z : Nat} {A : Tab} (h : HeldZ m A Z) (hk : k < m) (hp : p < m) : HeldZ m (swapped A k p) Z := by
  obtain ⟨X, h1, h2⟩ := h
  exact ⟨X, h1, h2.swapped hk hp⟩
theorem HeldZ.freed {m k n Z : Nat} {A : Tab} (h : HeldZ m A Z) (hk : k < m) (h0 : A k k ≠ 0) (hn : n ≤ m) : HeldZ m (freed A k n) (Z * Z) := by
  obtain ⟨X, h1, h2⟩ := h
  have hX : 0 < X := by
    obtain ⟨M, s, h3⟩ := h2
    have := (h3 k hk).1
    have := (h3 k hk).2.1
    omega
  refine ⟨2 * X * X, ?_, (h2.freed hk h0 hn).mono (Nat.le_refl _) ?_⟩
  · have := Nat.mul_le_mul h1 h1
    have e : 2 * X * (2 * X) = 2 * (2 * X * X) := by simp only [Nat.mul_assoc, Nat.mul_left_comm X 2 X]
    omega
  · have := Nat.le_mul_of_pos_left X hX
    rw [Nat.mul_assoc]; omega
theorem HeldZ.sz {m Z : Nat} {A : Tab} (h : HeldZ m A Z) {i c : Nat} (hi : i < m) (hc : c ≤ m) : Sz Z (A i c) := by
  obtain ⟨X, h1, M, s, h2⟩ := h
  obtain ⟨a1, a2, a3⟩ := h2 i hi
  exact sz_of a1 (a3 c hc).1 (by have := (a3 c hc).2; omega) (by omega)
theorem HeldZ.quot {m Z : Nat} {A : Tab} (h : HeldZ m A Z) {i k : Nat} (hi : i < m) (hk : k < m) {c : Nat} (hc : c ≤ m) (h0 : A k k ≠ 0) : Sz (Z * Z) (A i c / A k k) := by
  obtain ⟨X, h1, M, s, h2⟩ := h
  obtain ⟨a1, a2, a3⟩ := h2 i hi
  obtain ⟨b1, b2, b3⟩ := h2 k hk
  obtain ⟨b4, b5⟩ := b3 k (by omega)
  have hMk : M k k ≠ 0 := by
    intro e
    rw [e] at b4
    have := cast_ne b1
    have e0 : ((0 : Int) : Rat) = 0 := rfl
    rw [e0] at b4
    grind
  have h3 := cast_ne a1
  have h4 := cast_ne b1
  have h5 := cast_ne hMk
  refine sz_of (s := s i * M k k) (M := M i c * s k) (Int.mul_ne_zero a1 hMk) ?_ ?_ ?_
  · push_cast
    rw [← (a3 c hc).1, ← b4]
    rw [← b4] at h5
    grind
  · rw [Int.natAbs_mul]; exact Nat.mul_le_mul (by have := (a3 c hc).2; omega) (by omega)
  · rw [Int.natAbs_mul]; exact Nat.mul_le_mul (by omega) (by omega)
theorem HeldZ.prod {m Z : Nat} {A : Tab} (h : HeldZ m A Z) {i k : Nat} (hi : i < m) (hk : k < m) {c : Nat} (hc : c ≤ m) (h0 : A k k ≠ 0) : Sz (Z * Z) (A i k / A k k * A k c) := by
  obtain ⟨X, h1, M, s, h2⟩ := h
  obtain ⟨a1, a2, a3⟩ := h2 i hi
  obtain ⟨b1, b2, b3⟩ := h2 k hk
  obtain ⟨b4, b5⟩ := b3 k (by omega)
  have hMk : M k k ≠ 0 := by
    intro e
    rw [e] at b4
    have := cast_ne b1
    have e0 : ((0 : Int) : Rat) = 0 := rfl
    rw [e0] at b4
    grind
  have h3 := cast_ne a1
  have h4 := cast_ne b1
  have h5 := cast_ne hMk
  refine sz_of (s := s i * M k k) (M := M i k * M k c) (Int.mul_ne_zero a1 hMk) ?_ ?_ ?_
  · push_cast
    rw [← (a3 k (by omega)).1, ← b4, ← (b3 c hc).1]
    rw [← b4] at h5
    grind
  · rw [Int.natAbs_mul]; exact Nat.mul_le_mul (by have := (a3 k (by omega)).2; omega) (by have := (b3 c hc).2; omega)
  · rw [Int.natAbs_mul]; exact Nat.mul_le_mul (by omega) (by omega)
end Go.Proofs.YtdecgcdkaaiglaaGreat
namespace Go.Proofs.YtdecgcdkaaiglaaGreat
/-- A stage of the elimination. -/
def Stage (m : Nat) (A0 : Tab) (k : Nat) (A : Tab) (Z : Nat) : Prop := Only m A ∧ Clear m k A ∧ HeldZ m A Z ∧ ∀ x, Solves m A x → Solves m A0 x
theorem Stage.start {m Z : Nat} {A : Tab} (h1 : Only m A) (h2 : HeldZ m A Z) : Stage m A 0 A Z := ⟨h1, fun j hj => by omega, h2, fun x h => h⟩
theorem Stage.pivot {m k Z : Nat} {A0 A : Tab} (h : Stage m A0 k A Z) (hk : k < m) : ∃ p, k ≤ p ∧ p < m ∧ A p k ≠ 0 := Go.Proofs.YtdecgcdkaaiglaaGreat.pivot h.1 h.2.1 hk
theorem Stage.swapped {m k p Z : Nat} {A0 A : Tab} (h : Stage m A0 k A Z) (hk : k ≤ p) (hp : p < m) : Stage m A0 k (swapped A k p) Z :=
  ⟨h.1.swapped (by omega) hp, h.2.1.swapped hk hp, h.2.2.1.swapped (by omega) hp, fun x hx => h.2.2.2 x (hx.unswap (by omega) hp)⟩
theorem Stage.freed {m k Z : Nat} {A0 A : Tab} (h : Stage m A0 k A Z) (hk : k < m) (h0 : A k k ≠ 0) : Stage m A0 (k + 1) (freed A k m) (Z * Z) :=
  ⟨h.1.freed hk, h.2.1.freed hk h0, h.2.2.1.freed hk h0 (Nat.le_refl _), fun x hx => h.2.2.2 x (hx.unfree hk)⟩
theorem Stage.done {m Z : Nat} {A0 A : Tab} (h : Stage m A0 m A Z) : Solves m A0 (fun c => A c m / A c c) := h.2.2.2 _ h.2.1.solves
/-- The numbers below n with P, increasing; how many there are below k. -/
def frees (P : Nat → Bool) (n : Nat) : List Nat := (List.range n).filter P
def rank (P : Nat → Bool) (k : Nat) : Nat := (frees P k).length
theorem frees_succ (P : Nat → Bool) (n : Nat) : frees P (n + 1) = frees P n ++ (if P n = true then [n] else []) := by
  unfold frees
  rw [List.range_succ, List.filter_append]
  by_cases h : P n = true
  · simp [h]
  · simp [h]
theorem rank_succ (P : Nat → Bool) (n : Nat) : rank P (n + 1) = rank P n + (if P n = true then 1 else 0) := by
  unfold rank
  rw [frees_succ, List.length_append]
  by_cases h : P n = true <;> simp [h]
theorem rank_mono (P : Nat → Bool) {k n : Nat} (h : k ≤ n) : rank P k ≤ rank P n := by
  induction n with
  | zero => obtain rfl : k = 0 := by omega
            exact Nat.le_refl _
  | succ n ih =>
    rcases Nat.lt_or_ge k (n + 1) with h1 | h1
    · have := ih (by omega); rw [rank_succ]; omega
    · obtain rfl : k = n + 1 := by omega
      exact Nat.le_refl _
theorem rank_le (P : Nat → Bool) (n : Nat) : rank P n ≤ n := by
  unfold rank frees
  have := List.length_filter_le P (List.range n)
  simpa using this
theorem rank_lt (P : Nat → Bool) {k n : Nat} (h : k < n) (hP : P k = true) : rank P k < rank P n := by
  have h1 := rank_mono P (show k + 1 ≤ n by omega)
  rw [rank_succ, if_pos hP] at h1
  omega
theorem frees_get (P : Nat → Bool) {k n : Nat} (h : k < n) (hP : P k = true) : (frees P n).getD (rank P k) 0 = k := by
  induction n with
  | zero => omega
  | succ n ih =>
    rw [frees_succ, List.getD_eq_getElem?_getD]
    rcases Nat.lt_or_ge k n with h1 | h1
    · rw [List.getElem?_append_left (rank_lt P h1 hP), ← List.getD_eq_getElem?_getD]
      exact ih h1
    · obtain rfl : k = n := by omega
      rw [if_pos hP, show rank P k = (frees P k).length from rfl, List.getElem?_append_right (Nat.le_refl _)]
      simp
theorem frees_mem (P : Nat → Bool) {n i : Nat} (hi : i < rank P n) : (frees P n).getD i 0 < n ∧ P ((frees P n).getD i 0) = true ∧ rank P ((frees P n).getD i 0) = i := by
  induction n with
  | zero => simp [rank, frees] at hi
  | succ n ih =>
    rw [rank_succ] at hi
    rw [frees_succ]
    rcases Nat.lt_or_ge i (rank P n) with h1 | h1
    · obtain ⟨h2, h3, h4⟩ := ih h1
      rw [List.getD_eq_getElem?_getD, List.getElem?_append_left h1, ← List.getD_eq_getElem?_getD]
      exact ⟨by omega, h3, h4⟩
    · by_cases hP : P n = true
      · rw [if_pos hP] at hi
        obtain rfl : i = rank P n := by omega
        rw [if_pos hP, List.getD_eq_getElem?_getD, show (frees P n ++ [n])[rank P n]? = some n by rw [show rank P n = (frees P n).length from rfl, List.getElem?_append_right (Nat.le_refl _)]; simp]
        exact ⟨Nat.lt_succ_self n, hP, rfl⟩
      · rw [if_neg hP] at hi; omega
section
variable {N : Nat} (pf pt : Nat → Nat) (c : Nat → Rat) (fx : Nat → Option Rat) (wl : Nat → Rat) (asked : Nat → Bool)
/-- the free nodes -/
def isFree (k : Nat) : Bool := (fx k).isNone && asked k
theorem isFree_iff {k : Nat} : isFree fx asked k = true ↔ Free fx asked k := by
  unfold isFree Free
  cases fx k <;> simp
/-- what is known of a node's head at first -/
def outOf (k : Nat) : Rat := (fx k).getD 0
/-- heads made of the unknowns x -/
def extd (x : Nat → Rat) (k : Nat) : Rat := match fx k with
  | some v => v
  | none => if asked k = true then x (rank (isFree fx asked) k) else 0
theorem ext_free {x : Nat → Rat} {k : Nat} (h : isFree fx asked k = true) : extd fx asked x k = x (rank (isFree fx asked) k) := by
  obtain ⟨h1, h2⟩ := (isFree_iff fx asked).1 h
  unfold extd; rw [h1]; simp [h2]
theorem ext_out {x : Nat → Rat} {k : Nat} (h : ¬ isFree fx asked k = true) : extd fx asked x k = outOf fx k := by
  unfold extd outOf
  cases hx : fx k with
  | some v => rfl
  | none =>
    have : ¬ asked k = true := fun e => h ((isFree_iff fx asked).2 ⟨hx, e⟩)
    simp [this]
/-- The program's step: a pipe of node k to node o. -/
def putTab (m : Nat) (A : Tab) (k o : Nat) (d : Rat) : Tab :=
  if isFree fx asked k = true then
    (if isFree fx asked o = true then bumped (bumped A (rank (isFree fx asked) k) (rank (isFree fx asked) k) d) (rank (isFree fx asked) k) (rank (isFree fx asked) o) (-d)
     else bumped (bumped A (rank (isFree fx asked) k) (rank (isFree fx asked) k) d) (rank (isFree fx asked) k) m (d * outOf fx o))
  else A
/-- The program's table, behind n pipes. -/
def tabAt (N : Nat) : Nat → Tab
  | 0 => fun i j => if j = rank (isFree fx asked) N then -(wl ((frees (isFree fx asked) N).getD i 0)) else 0
  | n + 1 => putTab fx asked (rank (isFree fx asked) N) (putTab fx asked (rank (isFree fx asked) N) (tabAt N n) (pf n) (pt n) (c n)) (pt n) (pf n) (c n)
theorem putTab_lin {A : Tab} {k o i : Nat} {d : Rat} (x : Nat → Rat) (hk : k < N) (ho : o < N) (hi : i < rank (isFree fx asked) N) :
    lin (rank (isFree fx asked) N) (putTab fx asked (rank (isFree fx asked) N) A k o d) i x = lin (rank (isFree fx asked) N) A i x + (if (frees (isFree fx asked) N).getD i 0 = k then d * (extd fx asked x k - extd fx asked x o) else 0) := by
  obtain ⟨m1, m2, m3⟩ := frees_mem _ hi
  unfold putTab
  by_cases hP : isFree fx asked k = true
  · rw [if_pos hP]
    have hrk := rank_lt _ hk hP
    have e : (i = rank (isFree fx asked) k) ↔ ((frees (isFree fx asked) N).getD i 0 = k) := by
      constructor
      · intro h; rw [h]; exact frees_get _ hk hP
      · intro h; rw [← h]; exact m3.symm
    by_cases hQ : isFree fx asked o = true
    · rw [if_pos hQ]
      have hro := rank_lt _ ho hQ
      rw [lin_bumped _ _ (by omega), lin_bumped _ _ (by omega), ext_free _ _ hP, ext_free _ _ hQ, if_neg (show ¬ rank (isFree fx asked) k = rank (isFree fx asked) N by omega), if_neg (show ¬ rank (isFree fx asked) o = rank (isFree fx asked) N by omega)]
      by_cases h : i = rank (isFree fx asked) k
      · rw [if_pos h, if_pos h, if_pos (e.1 h)]; grind
      · rw [if_neg h, if_neg h, if_neg (fun h2 => h (e.2 h2))]; grind
    · rw [if_neg hQ]
      rw [lin_bumped _ _ (Nat.le_refl _), lin_bumped _ _ (by omega), ext_free _ _ hP, ext_out _ _ hQ, if_neg (show ¬ rank (isFree fx asked) k = rank (isFree fx asked) N by omega), if_pos rfl]
      by_cases h : i = rank (isFree fx asked) k
      · rw [if_pos h, if_pos h, if_pos (e.1 h)]; grind
      · rw [if_neg h, if_neg h, if_neg (fun h2 => h (e.2 h2))]; grind
  · rw [if_neg hP, if_neg (fun h => hP (by rw [← h]; exact m2))]; grind
theorem tabAt_lin {np : Nat} (hp : Piped N np pf pt c) (x : Nat → Rat) {i : Nat} (hi : i < rank (isFree fx asked) N) : ∀ n, n ≤ np →
    lin (rank (isFree fx asked) N) (tabAt pf pt c fx wl asked N n) i x = flowTo n pf pt c (extd fx asked x) ((frees (isFree fx asked) N).getD i 0) + wl ((frees (isFree fx asked) N).getD i 0) := by
  intro n
  induction n with
  | zero =>
    intro _
    unfold lin tabAt
    rw [flowTo_zero, if_pos rfl]
    have e : sumTo (rank (isFree fx asked) N) (fun j => (if j = rank (isFree fx asked) N then -(wl ((frees (isFree fx asked) N).getD i 0)) else 0) * x j) = sumTo (rank (isFree fx asked) N) (fun _ => 0) :=
      sumTo_congr fun k hk => by rw [if_neg (by omega)]; grind
    rw [e, sumTo_const0]; grind
  | succ n ih =>
    intro hn
    unfold tabAt
    rw [putTab_lin fx asked x (hp.to_lt n (by omega)) (hp.from_lt n (by omega)) hi, putTab_lin fx asked x (hp.from_lt n (by omega)) (hp.to_lt n (by omega)) hi, ih (by omega), flowTo_succ]
    have h1 : ((frees (isFree fx asked) N).getD i 0 = pf n) ↔ (pf n = (frees (isFree fx asked) N).getD i 0) := ⟨Eq.symm, Eq.symm⟩
    have h2 : ((frees (isFree fx asked) N).getD i 0 = pt n) ↔ (pt n = (frees (isFree fx asked) N).getD i 0) := ⟨Eq.symm, Eq.symm⟩
    simp only [h1, h2]
    grind
theorem tab_only {np : Nat} (hp : Piped N np pf pt c) (ht : Tied N np pf pt fx asked) : Only (rank (isFree fx asked) N) (tabAt pf pt c fx wl asked N np) := by
  apply only_of_lin
  intro x y h
  have hz := harmonic_zero (g := fun j => extd fx asked x j - extd fx asked y j) (S := fun j => j < N ∧ fx j ≠ none) (F := Free fx asked) hp (fun j hj hf => hj.2 hf.1)
    (fun j hj hf => by
      have : ¬ isFree fx asked j = true := fun e => hf ((isFree_iff fx asked).1 e)
      rw [ext_out _ _ this, ext_out _ _ this]; grind)
    (fun j hj hf => by
      have hf' := (isFree_iff fx asked).2 hf
      have hi := rank_lt _ hj hf'
      have := h _ hi
      rw [tabAt_lin pf pt c fx wl asked hp x hi np (Nat.le_refl _), tabAt_lin pf pt c fx wl asked hp y hi np (Nat.le_refl _), frees_get _ hj hf'] at this
      rw [flowTo_sub]; grind) ht (fun j hj => hj.1)
  intro i hi
  obtain ⟨m1, m2, m3⟩ := frees_mem _ hi
  have := hz _ m1
  rw [ext_free _ _ m2, ext_free _ _ m2, m3] at this
  grind
theorem tab_heads {np : Nat} (hp : Piped N np pf pt c) {x : Nat → Rat} (hx : Solves (rank (isFree fx asked) N) (tabAt pf pt c fx wl asked N np) x) :
    IsHeads N np pf pt c fx wl asked (extd fx asked x) := by
  intro k hk
  cases hf : fx k with
  | some v => simp only; unfold extd; rw [hf]
  | none =>
    simp only
    by_cases ha : asked k = true
    · rw [if_pos ha]
      have hF := (isFree_iff fx asked).2 ⟨hf, ha⟩
      have hi := rank_lt _ hk hF
      have := solves_iff_lin.1 hx _ hi
      rw [tabAt_lin pf pt c fx wl asked hp x hi np (Nat.le_refl _), frees_get _ hk hF] at this
      grind
    · rw [if_neg ha]
      unfold extd
      rw [hf]; simp [ha]
end
end Go.Proofs.YtdecgcdkaaiglaaGreat
namespace Go.Proofs.YtdecgcdkaaiglaaGreat
/-- the sign a .. z; a digit; a hyphen -/
def isLow (c : UInt8) : Bool := decide (97 ≤ c.toNat) && decide (c.toNat ≤ 122)
def isNameSign (c : UInt8) : Bool := isLow c || isDig c || c == 45
/-- a text is a name -/
def isName (l : List UInt8) : Bool := decide (1 ≤ l.length) && decide (l.length ≤ 16) && isLow (l.headD 0) && l.all isNameSign
/-- the error of a number that is handed in -/
def numErr (l : List UInt8) : Int := match readFrac l with
  | none => 4
  | some q => if Short 12 q then 0 else 3
/-- the number that a text says, 0 if none -/
def numOf (l : List UInt8) : Rat := (readFrac l).getD 0
theorem numErr_ok {l : List UInt8} (h : numErr l = 0) : ∃ q, readFrac l = some q ∧ Short 12 q ∧ numOf l = q ∧ l = fracText q := by
  unfold numErr at h
  cases hr : readFrac l with
  | none => rw [hr] at h; simp at h
  | some q =>
    rw [hr] at h
    simp only at h
    by_cases hs : Short 12 q
    · exact ⟨q, rfl, hs, by unfold numOf; rw [hr]; rfl, (readFrac_some.1 hr).1⟩
    · rw [if_neg hs] at h; simp at h
structure Pipe where
  name : List UInt8
  from_ : Int
  to_ : Int
  low : List UInt8
  high : List UInt8
structure Level where
  node : Int
  value : List UInt8
structure Net where
  nodes : List (List UInt8)
  pipes : List Pipe
  heads : List Level
  wells : List Level
instance : Inhabited Pipe := ⟨⟨[], 0, 0, [], []⟩⟩
instance : Inhabited Level := ⟨⟨0, []⟩⟩
/-- the first of f 0 .. f (n-1) that is not 0 -/
def firstErr (n : Nat) (f : Nat → Int) : Int := match n with
  | 0 => 0
  | n + 1 => if firstErr n f = 0 then f n else firstErr n f
theorem firstErr_all {n : Nat} {f : Nat → Int} : firstErr n f = 0 ↔ ∀ k, k < n → f k = 0 := by
  induction n with
  | zero => simp [firstErr]
  | succ n ih =>
    unfold firstErr
    constructor
    · intro h k hk
      by_cases h0 : firstErr n f = 0
      · rw [if_pos h0] at h
        rcases Nat.lt_or_ge k n with h1 | h1
        · exact ih.1 h0 k h1
        · obtain rfl : k = n := by omega
          exact h
      · rw [if_neg h0] at h; exact absurd h h0
    · intro h
      rw [if_pos (ih.2 fun k hk => h k (by omega))]
      exact h n (by omega)
theorem firstErr_at {n k : Nat} {f : Nat → Int} (hk : k < n) (h : ∀ j, j < k → f j = 0) (h0 : f k ≠ 0) : firstErr n f = f k := by
  induction n with
  | zero => omega
  | succ n ih =>
    unfold firstErr
    rcases Nat.lt_or_ge k n with h1 | h1
    · rw [ih h1, if_neg h0]
    · obtain rfl : k = n := by omega
      rw [if_pos (firstErr_all.2 h)]
namespace Net
variable (n : Net)
def N : Nat := n.nodes.length
def np : Nat := n.pipes.length
def nodeErr (i : Nat) : Int :=
  if isName (n.nodes.getD i []) = false then 5 else if n.nodes.getD i [] ∈ n.nodes.take i then 6 else 0
def pipeErr (i : Nat) : Int :=
  let p := n.pipes.getD i default
  if isName p.name = false then 5
  else if p.name ∈ (n.pipes.take i).map (·.name) then 6
  else if p.from_ < 0 ∨ (n.nodes.length : Int) ≤ p.from_ ∨ p.to_ < 0 ∨ (n.nodes.length : Int) ≤ p.to_ then 7
  else if p.from_ = p.to_ then 1
  else if numErr p.low ≠ 0 then numErr p.low
  else if numErr p.high ≠ 0 then numErr p.high
  else if numOf p.low ≤ 0 ∨ numOf p.high < numOf p.low then 1 else 0
def levelErr (l : List Level) (i : Nat) : Int :=
  let v := l.getD i default
  if v.node < 0 ∨ (n.nodes.length : Int) ≤ v.node then 7
  else if v.node ∈ (l.take i).map (·.node) then 6
  else numErr v.value
def wellErr (i : Nat) : Int :=
  if n.levelErr n.wells i ≠ 0 then n.levelErr n.wells i
  else if (n.wells.getD i default).node ∈ n.heads.map (·.node) then 10 else 0
def pf (i : Nat) : Nat := (n.pipes.getD i default).from_.toNat
def pt (i : Nat) : Nat := (n.pipes.getD i default).to_.toNat
/-- the value of a node in a list of levels -/
def at_ (l : List Level) (k : Nat) : Option Rat := (l.find? fun v => v.node == (k : Int)).map fun v => numOf v.value
/-- the nodes of levels -/
def on (l : List Level) (k : Nat) : Prop := ∃ v ∈ l, v.node = (k : Int)
open Classical in
/-- the error of a net -/
noncomputable def err : Int :=
  if 24 < n.nodes.length then 3
  else if n.nodes.length = 0 then 1
  else if firstErr n.nodes.length n.nodeErr ≠ 0 then firstErr n.nodes.length n.nodeErr
  else if 48 < n.pipes.length then 3
  else if firstErr n.pipes.length n.pipeErr ≠ 0 then firstErr n.pipes.length n.pipeErr
  else if firstErr n.heads.length (n.levelErr n.heads) ≠ 0 then firstErr n.heads.length (n.levelErr n.heads)
  else if firstErr n.wells.length n.wellErr ≠ 0 then firstErr n.wells.length n.wellErr
  else if ∀ k, k < n.nodes.length → Joined n.pipes.length n.pf n.pt (on n.heads) k then 0 else 9
end Net
end Go.Proofs.YtdecgcdkaaiglaaGreat
namespace Go.Proofs.YtdecgcdkaaiglaaGreat
/-- how many are not marked -/
def falses (l : List Bool) : Nat := l.count false
theorem falses_set {l : List Bool} {k : Nat} (hk : k < l.length) : falses (l.set k true) + (if l[k] = false then 1 else 0) = falses l := by
  unfold falses
  induction l generalizing k with
  | nil => simp at hk
  | cons b l ih =>
    cases k with
    | zero => cases b <;> simp [List.count_cons]
    | succ k =>
      have := ih (k := k) (by simpa using hk)
      simp only [List.set_cons_succ, List.count_cons, List.getElem_cons_succ]
      omega
/-- both ends of a pipe are marked -/
def both (l : List Bool) (a b : Nat) : List Bool := (l.set a true).set b true
theorem both_length (l : List Bool) (a b : Nat) : (both l a b).length = l.length := by simp [both]
theorem falses_both {l : List Bool} {a b : Nat} (ha : a < l.length) (hb : b < l.length) (h : l[a] ≠ l[b]) : falses (both l a b) + 1 = falses l := by
  have hab : a ≠ b := by intro e; subst e; exact h rfl
  have h1 := falses_set ha
  have h2 := falses_set (l := l.set a true) (k := b) (by simpa using hb)
  rw [List.getElem_set_ne hab] at h2
  unfold both
  cases ea : l[a] <;> cases eb : l[b] <;> simp [ea, eb] at h h1 h2 ⊢ <;> omega
theorem both_get {l : List Bool} {a b k : Nat} (h : (both l a b)[k]? = some true) : l[k]? = some true ∨ (k = a ∧ a < l.length) ∨ (k = b ∧ b < l.length) := by
  unfold both at h
  rw [List.getElem?_set] at h
  by_cases hb : b = k
  · subst hb
    rw [if_pos rfl] at h
    simp only [List.length_set] at h
    by_cases hl : b < l.length
    · exact .inr (.inr ⟨rfl, hl⟩)
    · rw [if_neg hl] at h; cases h
  · rw [if_neg hb, List.getElem?_set] at h
    by_cases ha : a = k
    · subst ha
      rw [if_pos rfl] at h
      by_cases hl : a < l.length
      · exact .inr (.inl ⟨rfl, hl⟩)
      · rw [if_neg hl] at h; cases h
    · rw [if_neg ha] at h; exact .inl h
theorem both_keep {l : List Bool} {a b k : Nat} (h : l[k]? = some true) : (both l a b)[k]? = some true := by
  have hk : k < l.length := by
    rcases Nat.lt_or_ge k l.length with h1 | h1
    · exact h1
    · rw [List.getElem?_eq_none h1] at h; cases h
  unfold both
  rw [List.getElem?_set, List.getElem?_set]
  simp only [List.length_set]
  by_cases hb : b = k
  · subst hb; simp [hk]
  · rw [if_neg hb]
    by_cases ha : a = k
    · subst ha; simp [hk]
    · rw [if_neg ha]; exact h
/-- the pipes of a net are between its nodes -/
def Net.Ends (n : Net) : Prop := ∀ i (h : i < n.pipes.length), n.pipes[i].from_ = (n.pf i : Int) ∧ n.pf i < n.nodes.length ∧ n.pipes[i].to_ = (n.pt i : Int) ∧ n.pt i < n.nodes.length
/-- marks on the way: all that S has, and no more than pipes join to it -/
structure MarkOk (n : Net) (S : Nat → Prop) (l : List Bool) : Prop where
  len : l.length = n.nodes.length
  base : ∀ k, S k → l[k]? = some true
  sound : ∀ k, l[k]? = some true → Joined n.pipes.length n.pf n.pt S k
theorem MarkOk.both {n : Net} {S : Nat → Prop} {l : List Bool} {i : Nat} (h : MarkOk n S l) (hi : i < n.pipes.length) (ha : n.pf i < l.length) (hb : n.pt i < l.length) (hne : l[n.pf i] ≠ l[n.pt i]) : MarkOk n S (both l (n.pf i) (n.pt i)) := by
  refine ⟨by rw [both_length]; exact h.len, fun k hk => both_keep (h.base k hk), fun k hk => ?_⟩
  rcases both_get hk with h1 | ⟨rfl, _⟩ | ⟨rfl, _⟩
  · exact h.sound k h1
  · cases e : l[n.pf i] with
    | true => exact h.sound _ (by rw [List.getElem?_eq_getElem ha, e])
    | false =>
      have e2 : l[n.pt i] = true := by cases e3 : l[n.pt i] <;> simp_all
      exact .left hi (h.sound _ (by rw [List.getElem?_eq_getElem hb, e2]))
  · cases e : l[n.pt i] with
    | true => exact h.sound _ (by rw [List.getElem?_eq_getElem hb, e])
    | false =>
      have e2 : l[n.pf i] = true := by cases e3 : l[n.pf i] <;> simp_all
      exact .right hi (h.sound _ (by rw [List.getElem?_eq_getElem ha, e2]))
/-- marks at the end: just what pipes join to S -/
structure Marks (n : Net) (S : Nat → Prop) (l : List Bool) : Prop where
  len : l.length = n.nodes.length
  iff : ∀ k, l[k]? = some true ↔ Joined n.pipes.length n.pf n.pt S k
theorem MarkOk.done {n : Net} {S : Nat → Prop} {l : List Bool} (h : MarkOk n S l) (hc : ∀ i, i < n.pipes.length → l[n.pf i]? = l[n.pt i]?) : Marks n S l := by
  refine ⟨h.len, fun k => ⟨h.sound k, fun hj => ?_⟩⟩
  induction hj with
  | base hs => exact h.base _ hs
  | right hi _ ih => rw [← hc _ hi]; exact ih
  | left hi _ ih => rw [hc _ hi]; exact ih
/-- marks of which nodes S are marked at the beginning -/
theorem MarkOk.start {n : Net} {l : List Bool} (hl : l.length = n.nodes.length) : MarkOk n (fun k => l[k]? = some true) l := ⟨hl, fun _ h => h, fun _ h => .base h⟩
theorem Joined.mono {np : Nat} {pf pt : Nat → Nat} {S T : Nat → Prop} (h : ∀ k, S k → T k) {k : Nat} (hj : Joined np pf pt S k) : Joined np pf pt T k := by
  induction hj with
  | base hs => exact .base (h _ hs)
  | right hi _ ih => exact .right hi ih
  | left hi _ ih => exact .left hi ih
/-- no mark is lacking -/
theorem Marks.all {n : Net} {S T : Nat → Prop} {l : List Bool} (h : Marks n S l) (hST : ∀ k, S k ↔ (k < n.nodes.length ∧ T k)) (hT : ∀ k, T k → k < n.nodes.length) :
    (∀ j (hj : j < l.length), l[j] = true) ↔ ∀ k, k < n.nodes.length → Joined n.pipes.length n.pf n.pt T k := by
  constructor
  · intro ha k hk
    have hk2 : k < l.length := by rw [h.len]; exact hk
    have := (h.iff k).1 (by rw [List.getElem?_eq_getElem hk2, ha k hk2])
    exact this.mono fun j hj => ((hST j).1 hj).2
  · intro ha j hj
    have := (h.iff j).2 ((ha j (by rw [← h.len]; exact hj)).mono fun i hi => (hST i).2 ⟨hT i hi, hi⟩)
    rw [List.getElem?_eq_getElem hj] at this
    injection this
end Go.Proofs.YtdecgcdkaaiglaaGreat
namespace Go.Proofs.YtdecgcdkaaiglaaGreat
namespace Net
variable {n : Net}
def P1 (n : Net) : Prop := ¬ 24 < n.nodes.length ∧ ¬ n.nodes.length = 0
def P2 (n : Net) : Prop := n.P1 ∧ firstErr n.nodes.length n.nodeErr = 0
def P3 (n : Net) : Prop := n.P2 ∧ ¬ 48 < n.pipes.length ∧ firstErr n.pipes.length n.pipeErr = 0
def P4 (n : Net) : Prop := n.P3 ∧ firstErr n.heads.length (n.levelErr n.heads) = 0
def P5 (n : Net) : Prop := n.P4 ∧ firstErr n.wells.length n.wellErr = 0
theorem err_many (h : 24 < n.nodes.length) : n.err = 3 := by unfold err; rw [if_pos h]
theorem err_none (h : n.nodes.length = 0) : n.err = 1 := by unfold err; rw [if_neg (by omega), if_pos h]
theorem err_node (h : n.P1) {k : Nat} {e : Int} (hk : k < n.nodes.length) (h0 : ∀ j, j < k → n.nodeErr j = 0) (h1 : n.nodeErr k = e) (he : e ≠ 0) : n.err = e := by
  have hf := firstErr_at hk h0 (by rw [h1]; exact he)
  unfold err; rw [if_neg h.1, if_neg h.2, if_pos (by rw [hf, h1]; exact he), hf, h1]
theorem P1.next (h : n.P1) (h0 : ∀ j, j < n.nodes.length → n.nodeErr j = 0) : n.P2 := ⟨h, firstErr_all.2 h0⟩
theorem err_pipes (h : n.P2) (h1 : 48 < n.pipes.length) : n.err = 3 := by
  unfold err; rw [if_neg h.1.1, if_neg h.1.2, if_neg (by rw [h.2]; decide), if_pos h1]
theorem err_pipe (h : n.P2) (h2 : ¬ 48 < n.pipes.length) {k : Nat} {e : Int} (hk : k < n.pipes.length) (h0 : ∀ j, j < k → n.pipeErr j = 0) (h1 : n.pipeErr k = e) (he : e ≠ 0) : n.err = e := by
  have hf := firstErr_at hk h0 (by rw [h1]; exact he)
  unfold err; rw [if_neg h.1.1, if_neg h.1.2, if_neg (by rw [h.2]; decide), if_neg h2, if_pos (by rw [hf, h1]; exact he), hf, h1]
theorem P2.next (h : n.P2) (h2 : ¬ 48 < n.pipes.length) (h0 : ∀ j, j < n.pipes.length → n.pipeErr j = 0) : n.P3 := ⟨h, h2, firstErr_all.2 h0⟩
theorem err_heads (h : n.P3) {e : Int} (h1 : firstErr n.heads.length (n.levelErr n.heads) = e) (he : e ≠ 0) : n.err = e := by
  unfold err; rw [if_neg h.1.1.1, if_neg h.1.1.2, if_neg (by rw [h.1.2]; decide), if_neg h.2.1, if_neg (by rw [h.2.2]; decide), if_pos (by rw [h1]; exact he), h1]
theorem err_well (h : n.P4) {k : Nat} {e : Int} (hk : k < n.wells.length) (h0 : ∀ j, j < k → n.wellErr j = 0) (h1 : n.wellErr k = e) (he : e ≠ 0) : n.err = e := by
  have hf := firstErr_at hk h0 (by rw [h1]; exact he)
  unfold err; rw [if_neg h.1.1.1.1, if_neg h.1.1.1.2, if_neg (by rw [h.1.1.2]; decide), if_neg h.1.2.1, if_neg (by rw [h.1.2.2]; decide), if_neg (by rw [h.2]; decide), if_pos (by rw [hf, h1]; exact he), hf, h1]
theorem P4.next (h : n.P4) (h0 : ∀ j, j < n.wells.length → n.wellErr j = 0) : n.P5 := ⟨h, firstErr_all.2 h0⟩
theorem err_end (h : n.P5) : (¬ (∀ k, k < n.nodes.length → Joined n.pipes.length n.pf n.pt (on n.heads) k) → n.err = 9) ∧ ((∀ k, k < n.nodes.length → Joined n.pipes.length n.pf n.pt (on n.heads) k) → n.err = 0) := by
  have e : n.err = (open Classical in if ∀ k, k < n.nodes.length → Joined n.pipes.length n.pf n.pt (on n.heads) k then 0 else 9) := by
    unfold err; rw [if_neg h.1.1.1.1.1, if_neg h.1.1.1.1.2, if_neg (by rw [h.1.1.1.2]; decide), if_neg h.1.1.2.1, if_neg (by rw [h.1.1.2.2]; decide), if_neg (by rw [h.1.2]; decide), if_neg (by rw [h.2]; decide)]
  constructor
  · intro h1; rw [e, if_neg h1]
  · intro h1; rw [e, if_pos h1]
theorem pipe_ends {i : Nat} (h0 : n.pipeErr i = 0) : 0 ≤ (n.pipes.getD i default).from_ ∧ (n.pipes.getD i default).from_ < n.nodes.length ∧ 0 ≤ (n.pipes.getD i default).to_ ∧ (n.pipes.getD i default).to_ < n.nodes.length ∧
    (n.pipes.getD i default).from_ ≠ (n.pipes.getD i default).to_ ∧ numErr (n.pipes.getD i default).low = 0 ∧ numErr (n.pipes.getD i default).high = 0 ∧ ¬ numOf (n.pipes.getD i default).low ≤ 0 ∧ ¬ numOf (n.pipes.getD i default).high < numOf (n.pipes.getD i default).low := by
  unfold pipeErr at h0
  simp only at h0
  generalize n.pipes.getD i default = p at h0 ⊢
  split at h0
  · cases h0
  split at h0
  · cases h0
  split at h0
  · cases h0
  split at h0
  · cases h0
  split at h0
  · next h => exact absurd h0 h
  split at h0
  · next h => exact absurd h0 h
  split at h0
  · cases h0
  next h1 h2 h3 h4 h5 h6 h7 =>
    rw [not_or] at h7
    exact ⟨by omega, by omega, by omega, by omega, h4, Classical.not_not.1 h5, Classical.not_not.1 h6, h7.1, h7.2⟩
theorem P3.ends (h : n.P3) : n.Ends := by
  intro i hi
  have h0 := pipe_ends (firstErr_all.1 h.2.2 i hi)
  have e : n.pipes.getD i default = n.pipes[i] := by simp [List.getD, List.getElem?_eq_getElem hi]
  rw [e] at h0
  unfold pf pt
  rw [e]
  exact ⟨by omega, by omega, by omega, by omega⟩
theorem level_ok {l : List Level} {i : Nat} (h0 : n.levelErr l i = 0) (hi : i < l.length) : 0 ≤ l[i].node ∧ l[i].node < n.nodes.length ∧ numErr l[i].value = 0 ∧ ¬ l[i].node ∈ (l.take i).map (·.node) := by
  unfold levelErr at h0
  have e : l.getD i default = l[i] := by simp [List.getD, List.getElem?_eq_getElem hi]
  rw [e] at h0
  simp only at h0
  split at h0
  · cases h0
  split at h0
  · cases h0
  next h1 h2 => exact ⟨by omega, by omega, h0, h2⟩
theorem wellErr_ok {i : Nat} (h : n.wellErr i = 0) : n.levelErr n.wells i = 0 ∧ ¬ (n.wells.getD i default).node ∈ n.heads.map (·.node) := by
  unfold wellErr at h
  split at h
  · next h1 => exact absurd h h1
  · next h1 =>
    split at h
    · cases h
    · next h2 => exact ⟨Classical.not_not.1 h1, h2⟩
theorem find_isSome {l : List Level} {z : Int} : (l.find? (fun v => v.node == z)).isSome = true ↔ z ∈ l.map (·.node) := by
  rw [List.find?_isSome, List.mem_map]
  constructor
  · rintro ⟨x, hx, h⟩; exact ⟨x, hx, by simpa using h⟩
  · rintro ⟨x, hx, h⟩; exact ⟨x, hx, by simpa using h⟩
theorem on_lt (h : n.P4) : ∀ k, on n.heads k → k < n.nodes.length := by
  rintro k ⟨v, hv, e⟩
  obtain ⟨i, hi, rfl⟩ := List.mem_iff_getElem.1 hv
  have := (level_ok (firstErr_all.1 h.2 i hi) hi).2.1
  omega
end Net
end Go.Proofs.YtdecgcdkaaiglaaGreat
namespace Go.Proofs.YtdecgcdkaaiglaaGreat
/-- q times s is an integer, at most B. -/
def MulQ (s : Int) (B : Nat) (q : Rat) : Prop := ∃ z : Int, q * (s : Rat) = (z : Rat) ∧ z.natAbs ≤ B
theorem MulQ.mono {s : Int} {B C : Nat} {q : Rat} (h : MulQ s B q) (hBC : B ≤ C) : MulQ s C q := by
  obtain ⟨z, h1, h2⟩ := h
  exact ⟨z, h1, by omega⟩
theorem MulQ.zero (s : Int) (B : Nat) : MulQ s B 0 := ⟨0, by rw [Rat.zero_mul]; rfl, by simp⟩
theorem MulQ.neg {s : Int} {B : Nat} {q : Rat} (h : MulQ s B q) : MulQ s B (-q) := by
  obtain ⟨z, h1, h2⟩ := h
  exact ⟨-z, by push_cast; rw [← h1]; grind, by omega⟩
theorem MulQ.add {s : Int} {B C : Nat} {p q : Rat} (hp : MulQ s B p) (hq : MulQ s C q) : MulQ s (B + C) (p + q) := by
  obtain ⟨z, h1, h2⟩ := hp
  obtain ⟨y, h3, h4⟩ := hq
  exact ⟨z + y, by push_cast; rw [← h1, ← h3]; grind, by omega⟩
theorem MulQ.sub {s : Int} {B C : Nat} {p q : Rat} (hp : MulQ s B p) (hq : MulQ s C q) : MulQ s (B + C) (p - q) := by rw [Rat.sub_eq_add_neg]; exact hp.add hq.neg
theorem MulQ.mul {s t : Int} {B C : Nat} {p q : Rat} (hp : MulQ s B p) (hq : MulQ t C q) : MulQ (s * t) (B * C) (p * q) := by
  obtain ⟨z, h1, h2⟩ := hp
  obtain ⟨y, h3, h4⟩ := hq
  refine ⟨z * y, by push_cast; rw [← h1, ← h3]; grind, ?_⟩
  rw [Int.natAbs_mul]; exact Nat.mul_le_mul h2 h4
theorem MulQ.scale {s : Int} {B : Nat} {q : Rat} (h : MulQ s B q) (t : Int) : MulQ (s * t) (B * t.natAbs) q := by
  obtain ⟨z, h1, h2⟩ := h
  refine ⟨z * t, by push_cast; rw [← h1]; grind, ?_⟩
  rw [Int.natAbs_mul]; exact Nat.mul_le_mul h2 (Nat.le_refl _)
theorem MulQ.scale' {s : Int} {B : Nat} {q : Rat} (h : MulQ s B q) (t : Int) : MulQ (t * s) (t.natAbs * B) q := by
  rw [Int.mul_comm, Nat.mul_comm]; exact h.scale t
theorem MulQ.sum {s : Int} {B n : Nat} {f : Nat → Rat} (h : ∀ k, k < n → MulQ s B (f k)) : MulQ s (n * B) (sumTo n f) := by
  induction n with
  | zero => exact (MulQ.zero s _)
  | succ n ih => rw [sumTo_succ, Nat.succ_mul]; exact (ih fun k hk => h k (by omega)).add (h n (by omega))
theorem MulQ.sz {s : Int} {B X : Nat} {q : Rat} (h : MulQ s B q) (hs : s ≠ 0) (h1 : B ≤ X) (h2 : s.natAbs ≤ X) : Sz X q := by
  obtain ⟨z, h3, h4⟩ := h
  exact sz_of hs h3 (by omega) h2
theorem MulQ.den (q : Rat) : MulQ (q.den : Int) q.num.natAbs q := ⟨q.num, mul_den q, Nat.le_refl _⟩
/-- a factor of a product takes a number's denominator away -/
theorem MulQ.prod {n k : Nat} {q : Nat → Rat} {e : Nat} (h : ∀ k, k < n → Dz e (q k)) (hk : k < n) : MulQ (prodTo n (fun k => (q k).den) : Int) (10 ^ (e * n)) (q k) := by
  induction n with
  | zero => omega
  | succ n ih =>
    unfold prodTo
    rw [Nat.mul_succ, Nat.pow_add]
    push_cast
    rcases Nat.lt_or_ge k n with h1 | h1
    · refine ((ih (fun k hk => h k (by omega)) h1).scale _).mono ?_
      exact Nat.mul_le_mul (Nat.le_refl _) (by rw [Int.natAbs_natCast]; exact (h n (by omega)).2)
    · obtain rfl : k = n := by omega
      refine ((MulQ.den (q k)).scale' _).mono ?_
      refine Nat.mul_le_mul ?_ (h k (by omega)).1
      rw [Int.natAbs_natCast, Nat.pow_mul]
      exact prodTo_le fun j hj => (h j (by omega)).2
theorem prod_dz {n e : Nat} {q : Nat → Rat} (h : ∀ k, k < n → Dz e (q k)) : prodTo n (fun k => (q k).den) ≤ 10 ^ (e * n) ∧ 0 < prodTo n (fun k => (q k).den) := by
  refine ⟨?_, prodTo_pos fun k _ => Nat.pos_of_ne_zero (q k).den_nz⟩
  rw [Nat.pow_mul]
  exact prodTo_le fun j hj => (h j hj).2
section
variable {N : Nat} (pf pt : Nat → Nat) (c : Nat → Rat) (fx : Nat → Option Rat) (wl : Nat → Rat) (asked : Nat → Bool)
theorem bumped_mul {A : Tab} {i' c' i j : Nat} {d : Rat} {s : Int} {B b : Nat} (h : ∀ j, MulQ s B (A i j)) (hd : MulQ s b d) : MulQ s (B + b) (bumped A i' c' d i j) := by
  unfold bumped
  by_cases h1 : i = i' ∧ j = c'
  · rw [if_pos h1, ← h1.1]; exact (h _).add hd
  · rw [if_neg h1]; exact (h j).mono (by omega)
theorem putTab_mul {A : Tab} {m k o i : Nat} {d : Rat} {s : Int} {B b : Nat} (h : ∀ j, MulQ s B (A i j)) (hd : MulQ s b d) (ho : MulQ s b (d * outOf fx o)) (j : Nat) :
    MulQ s (B + b + b) (putTab fx asked m A k o d i j) := by
  unfold putTab
  split
  · split
    · exact bumped_mul (fun j => bumped_mul h hd) hd.neg
    · exact bumped_mul (fun j => bumped_mul h hd) ho
  · exact (h j).mono (by omega)
theorem tabAt_mul {np b : Nat} {s : Nat → Int} (hp : Piped N np pf pt c) (hc : ∀ i, i < rank (isFree fx asked) N → ∀ j, j < np → MulQ (s i) b (c j)) (ho : ∀ i, i < rank (isFree fx asked) N → ∀ j, j < np → ∀ k, k < N → MulQ (s i) b (c j * outOf fx k))
    (hw : ∀ i, i < rank (isFree fx asked) N → MulQ (s i) b (wl ((frees (isFree fx asked) N).getD i 0))) {i : Nat} (hi : i < rank (isFree fx asked) N) : ∀ n, n ≤ np → ∀ j, MulQ (s i) (b + 4 * n * b) (tabAt pf pt c fx wl asked N n i j) := by
  intro n
  induction n with
  | zero =>
    intro _ j
    unfold tabAt
    split
    · exact (hw i hi).neg.mono (by omega)
    · exact MulQ.zero _ _
  | succ n ih =>
    intro hn j
    unfold tabAt
    refine (putTab_mul fx asked (putTab_mul fx asked (ih (by omega)) (hc i hi n (by omega)) (ho i hi n (by omega) _ (hp.to_lt n (by omega)))) (hc i hi n (by omega)) (ho i hi n (by omega) _ (hp.from_lt n (by omega))) j).mono ?_
    rw [Nat.mul_add, Nat.add_mul]; omega
theorem tab_heldZ {np b X : Nat} {s : Nat → Int} (hp : Piped N np pf pt c) (hc : ∀ i, i < rank (isFree fx asked) N → ∀ j, j < np → MulQ (s i) b (c j)) (ho : ∀ i, i < rank (isFree fx asked) N → ∀ j, j < np → ∀ k, k < N → MulQ (s i) b (c j * outOf fx k))
    (hw : ∀ i, i < rank (isFree fx asked) N → MulQ (s i) b (wl ((frees (isFree fx asked) N).getD i 0))) (hs : ∀ i, i < rank (isFree fx asked) N → s i ≠ 0 ∧ (s i).natAbs ≤ X) (hX : b + 4 * np * b ≤ X) :
    HeldZ (rank (isFree fx asked) N) (tabAt pf pt c fx wl asked N np) (2 * X) := by
  refine ⟨X, Nat.le_refl _, ?_⟩
  have h : ∀ i j : Nat, ∃ z : Int, i < rank (isFree fx asked) N → (tabAt pf pt c fx wl asked N np i j * (s i : Rat) = (z : Rat) ∧ z.natAbs ≤ X) := by
    intro i j
    by_cases hi : i < rank (isFree fx asked) N
    · obtain ⟨z, h1, h2⟩ := tabAt_mul pf pt c fx wl asked hp hc ho hw (i := i) hi np (Nat.le_refl _) j
      exact ⟨z, fun _ => ⟨h1, by omega⟩⟩
    · exact ⟨0, fun h => absurd h hi⟩
  exact ⟨fun i j => Classical.choose (h i j), s, fun i hi => ⟨(hs i hi).1, (hs i hi).2, fun j hj => Classical.choose_spec (h i j) hi⟩⟩
end
/-- the unknown that a row of the diagonal gives -/
theorem HeldZ.diag {m Z : Nat} {A : Tab} (h : HeldZ m A Z) {i : Nat} (hi : i < m) (h0 : A i i ≠ 0) : ∃ t : Int, t ≠ 0 ∧ t.natAbs ≤ Z ∧ MulQ t Z (A i m / A i i) := by
  obtain ⟨X, h1, M, s, h2⟩ := h
  obtain ⟨a1, a2, a3⟩ := h2 i hi
  obtain ⟨b1, b2⟩ := a3 i (by omega)
  obtain ⟨c1, c2⟩ := a3 m (Nat.le_refl _)
  have h3 := cast_ne a1
  have hMk : M i i ≠ 0 := by
    intro e
    rw [e] at b1
    have e0 : ((0 : Int) : Rat) = 0 := rfl
    rw [e0] at b1
    grind
  have h5 := cast_ne hMk
  refine ⟨M i i, hMk, by omega, M i m, ?_, by omega⟩
  rw [← b1, ← c1]
  rw [← b1] at h5
  grind
/-- Numbers with a common denominator. -/
def Common (n : Nat) (h : Nat → Rat) (E : Nat) : Prop := ∃ T : Int, T ≠ 0 ∧ T.natAbs ≤ 10 ^ E ∧ ∀ k, k < n → MulQ T (10 ^ E) (h k)
theorem Common.get {n E : Nat} {h : Nat → Rat} (hc : Common n h E) {k : Nat} (hk : k < n) : Dz E (h k) := by
  obtain ⟨T, h1, h2, h3⟩ := hc
  exact (h3 k hk).sz h1 (Nat.le_refl _) h2
/-- heads made of unknowns and of fixed ones -/
theorem common_ext {N E F : Nat} {fx : Nat → Option Rat} {asked : Nat → Bool} {x : Nat → Rat} (hx : Common (rank (isFree fx asked) N) x E) (hf : ∀ k, k < N → Dz F (outOf fx k)) : Common N (extd fx asked x) (E + F * N) := by
  obtain ⟨T, h1, h2, h3⟩ := hx
  obtain ⟨d1, d2⟩ := prod_dz hf
  refine ⟨T * (prodTo N (fun k => (outOf fx k).den) : Int), Int.mul_ne_zero h1 (by omega), ?_, fun k hk => ?_⟩
  · rw [Int.natAbs_mul, Nat.pow_add]; exact Nat.mul_le_mul h2 (by rw [Int.natAbs_natCast]; exact d1)
  · rw [Nat.pow_add]
    by_cases hF : isFree fx asked k = true
    · rw [ext_free _ _ hF]
      exact ((h3 _ (rank_lt _ hk hF)).scale _).mono (Nat.mul_le_mul (Nat.le_refl _) (by rw [Int.natAbs_natCast]; exact d1))
    · rw [ext_out _ _ hF]
      exact ((MulQ.prod hf hk).scale' T).mono (Nat.mul_le_mul h2 (Nat.le_refl _))
end Go.Proofs.YtdecgcdkaaiglaaGreat
namespace Go.Proofs.YtdecgcdkaaiglaaGreat
/-- what heads g, h have in common: the sum of c times both differences -/
def cross (np : Nat) (pf pt : Nat → Nat) (c g h : Nat → Rat) : Rat := sumTo np fun i => c i * (g (pf i) - g (pt i)) * (h (pf i) - h (pt i))
/-- the flow f away from node k -/
def divOf (np : Nat) (pf pt : Nat → Nat) (f : Nat → Rat) (k : Nat) : Rat := sumTo np fun i => (if pf i = k then f i else 0) + (if pt i = k then -(f i) else 0)
theorem div_flow (np : Nat) (pf pt : Nat → Nat) (c h : Nat → Rat) (k : Nat) : divOf np pf pt (fun i => c i * (h (pf i) - h (pt i))) k = flowTo np pf pt c h k := by
  unfold divOf flowTo
  apply sumTo_congr
  intro i _
  by_cases h1 : pf i = k <;> by_cases h2 : pt i = k <;> simp only [h1, h2, if_true, if_false] <;> grind
theorem sum_at {N j : Nat} (g : Nat → Rat) (v : Rat) (hj : j < N) : sumTo N (fun k => g k * (if j = k then v else 0)) = g j * v := by
  rw [sumTo_one (j := j) hj]
  · rw [if_pos rfl]
  · intro k _ hk; rw [if_neg (fun e => hk e.symm)]; grind
/-- summation by parts -/
theorem by_parts {N np : Nat} {pf pt : Nat → Nat} (h1 : ∀ i, i < np → pf i < N) (h2 : ∀ i, i < np → pt i < N) (g f : Nat → Rat) :
    sumTo N (fun k => g k * divOf np pf pt f k) = sumTo np fun i => f i * (g (pf i) - g (pt i)) := by
  have e : sumTo N (fun k => g k * divOf np pf pt f k) = sumTo N (fun k => sumTo np fun i => g k * (if pf i = k then f i else 0) + g k * (if pt i = k then -(f i) else 0)) := by
    apply sumTo_congr
    intro k _
    unfold divOf
    rw [← sumTo_mul]
    apply sumTo_congr
    intro i _
    grind
  rw [e, sumTo_swap]
  apply sumTo_congr
  intro i hi
  rw [sumTo_add, sum_at g _ (h1 i hi), sum_at g _ (h2 i hi)]
  grind
/-- two places alone -/
theorem sum_ab {N a b : Nat} {f : Nat → Rat} (ha : a < N) (hb : b < N) (hne : a ≠ b) (h : ∀ k, k < N → k ≠ a → k ≠ b → f k = 0) : sumTo N f = f a + f b := sumTo_two ha hb hne h
/-- Heads 1 and 0 at a and b; elsewhere nothing is lost. -/
structure Eff (N np : Nat) (pf pt : Nat → Nat) (c : Nat → Rat) (a b : Nat) (h : Nat → Rat) : Prop where
  piped : Piped N np pf pt c
  ha : a < N
  hb : b < N
  hne : a ≠ b
  ea : h a = 1
  eb : h b = 0
  flow : ∀ k, k < N → k ≠ a → k ≠ b → flowTo np pf pt c h k = 0
section
variable {N np : Nat} {pf pt : Nat → Nat} {c c' : Nat → Rat} {a b : Nat} {h h' g : Nat → Rat}
/-- the conductance of the whole -/
def condAt (np : Nat) (pf pt : Nat → Nat) (c : Nat → Rat) (a : Nat) (h : Nat → Rat) : Rat := flowTo np pf pt c h a
theorem Eff.cross (e : Eff N np pf pt c a b h) (ga : g a = 1) (gb : g b = 0) : cross np pf pt c g h = condAt np pf pt c a h := by
  have h1 := by_parts e.piped.from_lt e.piped.to_lt g (fun i => c i * (h (pf i) - h (pt i)))
  have h2 : sumTo N (fun k => g k * divOf np pf pt (fun i => c i * (h (pf i) - h (pt i))) k) = condAt np pf pt c a h := by
    rw [sum_ab e.ha e.hb e.hne (fun k hk h1 h2 => by rw [div_flow, e.flow k hk h1 h2]; grind), div_flow, div_flow, ga, gb]
    unfold condAt; grind
  rw [← h2, h1]
  unfold Go.Proofs.YtdecgcdkaaiglaaGreat.cross
  apply sumTo_congr
  intro i _
  grind
theorem Eff.energy (e : Eff N np pf pt c a b h) : Go.Proofs.YtdecgcdkaaiglaaGreat.cross np pf pt c h h = condAt np pf pt c a h := e.cross e.ea e.eb
theorem cross_nonneg (hc : ∀ i, i < np → 0 ≤ c i) : 0 ≤ cross np pf pt c g g := by
  apply sumTo_nonneg
  intro i hi
  have h1 := hc i hi
  have h2 : 0 ≤ (g (pf i) - g (pt i)) * (g (pf i) - g (pt i)) := by
    rcases Rat.le_total (a := 0) (b := g (pf i) - g (pt i)) with h | h
    · exact Rat.mul_nonneg h h
    · have := Rat.mul_nonneg (a := -(g (pf i) - g (pt i))) (b := -(g (pf i) - g (pt i))) (by grind) (by grind)
      grind
  have := Rat.mul_nonneg h1 h2
  grind
theorem sq_nonneg_ (x : Rat) : 0 ≤ x * x := by
  rcases Rat.le_total (a := 0) (b := x) with h | h
  · exact Rat.mul_nonneg h h
  · have := Rat.mul_nonneg (a := -x) (b := -x) (by grind) (by grind)
    grind
theorem cross_sub : cross np pf pt c (fun k => g k - h k) (fun k => g k - h k) = cross np pf pt c g g - 2 * cross np pf pt c g h + cross np pf pt c h h := by
  unfold cross
  rw [← sumTo_mul, ← sumTo_sub, ← sumTo_add]
  apply sumTo_congr
  intro i _
  grind
/-- no heads have less energy -/
theorem Eff.least (e : Eff N np pf pt c a b h) (ga : g a = 1) (gb : g b = 0) : condAt np pf pt c a h ≤ Go.Proofs.YtdecgcdkaaiglaaGreat.cross np pf pt c g g := by
  have h1 := cross_nonneg (np := np) (pf := pf) (pt := pt) (c := c) (g := fun k => g k - h k) (fun i hi => by have := e.piped.pos i hi; grind)
  rw [cross_sub, e.cross ga gb, e.energy] at h1
  grind
theorem cross_mono (hc : ∀ i, i < np → c i ≤ c' i) : cross np pf pt c g g ≤ cross np pf pt c' g g := by
  apply sumTo_le
  intro i hi
  have h1 := sq_nonneg_ (g (pf i) - g (pt i))
  have h2 := Rat.mul_nonneg (a := c' i - c i) (by have := hc i hi; grind) h1
  grind
theorem Eff.above (e : Eff N np pf pt c a b h) (ga : g a = 1) (gb : g b = 0) (hc : ∀ i, i < np → c i ≤ c' i) : condAt np pf pt c a h ≤ Go.Proofs.YtdecgcdkaaiglaaGreat.cross np pf pt c' g g := by
  have := e.least ga gb
  have := cross_mono (np := np) (pf := pf) (pt := pt) (g := g) hc
  grind
theorem Eff.mono (e : Eff N np pf pt c a b h) (e' : Eff N np pf pt c' a b h') (hc : ∀ i, i < np → c i ≤ c' i) : condAt np pf pt c a h ≤ condAt np pf pt c' a h' := by
  rw [← e'.energy]; exact e.above e'.ea e'.eb hc
theorem Eff.same (e : Eff N np pf pt c a b h) (e' : Eff N np pf pt c a b h') : condAt np pf pt c a h = condAt np pf pt c a h' := by
  have h1 := e.mono e' (fun i _ => by grind)
  have h2 := e'.mono e (fun i _ => by grind)
  grind
theorem flow_scale (t : Rat) (k : Nat) : flowTo np pf pt (fun i => t * c i) h k = t * flowTo np pf pt c h k := by
  unfold flowTo
  rw [← sumTo_mul]
  apply sumTo_congr
  intro i _
  by_cases h1 : pf i = k <;> by_cases h2 : pt i = k <;> simp only [h1, h2, if_true, if_false] <;> grind
theorem flow_ccongr {k : Nat} (hc : ∀ i, i < np → c i = c' i) : flowTo np pf pt c h k = flowTo np pf pt c' h k := by
  unfold flowTo
  apply sumTo_congr
  intro i hi
  rw [hc i hi]
/-- all conductances t times as great -/
theorem Eff.times (e : Eff N np pf pt c a b h) (e' : Eff N np pf pt c' a b h') {t : Rat} (ht : ∀ i, i < np → c' i = t * c i) : condAt np pf pt c' a h' = t * condAt np pf pt c a h := by
  have e2 : Eff N np pf pt c' a b h := { piped := e'.piped, ha := e.ha, hb := e.hb, hne := e.hne, ea := e.ea, eb := e.eb, flow := fun k hk h1 h2 => (by rw [flow_ccongr ht, flow_scale, e.flow k hk h1 h2]; grind) }
  rw [e'.same e2]
  unfold condAt
  rw [flow_ccongr ht, flow_scale]
theorem Eff.total (e : Eff N np pf pt c a b h) : flowTo np pf pt c h b = -(flowTo np pf pt c h a) := by
  have h1 := by_parts e.piped.from_lt e.piped.to_lt (fun _ => 1) (fun i => c i * (h (pf i) - h (pt i)))
  rw [sum_ab e.ha e.hb e.hne (fun k hk h1 h2 => by rw [div_flow, e.flow k hk h1 h2]; grind), div_flow, div_flow] at h1
  have h2 : sumTo np (fun i => c i * (h (pf i) - h (pt i)) * (((fun _ => 1 : Nat → Rat) (pf i)) - (fun _ => 1 : Nat → Rat) (pt i))) = 0 := by
    rw [sumTo_congr (g := fun _ => 0) (fun i _ => by grind), sumTo_const0]
  rw [h2] at h1
  grind
/-- the other way round -/
theorem Eff.back (e : Eff N np pf pt c a b h) : Eff N np pf pt c b a (fun k => 1 - h k) ∧ condAt np pf pt c b (fun k => 1 - h k) = condAt np pf pt c a h := by
  have hf : ∀ k, flowTo np pf pt c (fun k => 1 - h k) k = -(flowTo np pf pt c h k) := by
    intro k
    rw [← flowTo_neg]
    unfold flowTo
    apply sumTo_congr
    intro i _
    by_cases h1 : pf i = k <;> by_cases h2 : pt i = k <;> simp only [h1, h2, if_true, if_false] <;> grind
  refine ⟨{ piped := e.piped, ha := e.hb, hb := e.ha, hne := fun x => e.hne x.symm, ea := by rw [e.eb]; grind, eb := by rw [e.ea]; grind, flow := fun k hk h1 h2 => by rw [hf, e.flow k hk h2 h1]; grind }, ?_⟩
  unfold condAt
  rw [hf, e.total]; grind
theorem Eff.pos (e : Eff N np pf pt c a b h) (hj : Joined np pf pt (fun k => k = a) b) : 0 < condAt np pf pt c a h := by
  have h1 : 0 ≤ condAt np pf pt c a h := by rw [← e.energy]; exact cross_nonneg (fun i hi => by have := e.piped.pos i hi; grind)
  apply Classical.byContradiction
  intro hno
  have h0 : Go.Proofs.YtdecgcdkaaiglaaGreat.cross np pf pt c h h = 0 := by rw [e.energy]; grind
  have hz := sumTo_zero_of (fun i hi => by
    have := Rat.mul_nonneg (a := c i) (b := (h (pf i) - h (pt i)) * (h (pf i) - h (pt i))) (by have := e.piped.pos i hi; grind) (sq_nonneg_ _)
    grind) h0
  have hd : ∀ i, i < np → h (pf i) = h (pt i) := by
    intro i hi
    have h2 := hz i hi
    have h3 := e.piped.pos i hi
    rcases Rat.mul_eq_zero.1 h2 with h4 | h4
    · rcases Rat.mul_eq_zero.1 h4 with h5 | h5
      · grind
      · grind
    · grind
  have hall : ∀ k, Joined np pf pt (fun k => k = a) k → h k = 1 := by
    intro k hk
    induction hk with
    | base hs => rw [hs]; exact e.ea
    | right hi _ ih => rw [← hd _ hi]; exact ih
    | left hi _ ih => rw [hd _ hi]; exact ih
  have := hall b hj
  rw [e.eb] at this
  exact absurd this (by decide)
/-- A unit flow from a to b. -/
def UnitFlow (N np : Nat) (pf pt : Nat → Nat) (a b : Nat) (f : Nat → Rat) : Prop := ∀ k, k < N → divOf np pf pt f k = if k = a then 1 else if k = b then -1 else 0
theorem Eff.below {f : Nat → Rat} (e : Eff N np pf pt c a b h) (hf : UnitFlow N np pf pt a b f) (hC : 0 < condAt np pf pt c a h) : 1 / condAt np pf pt c a h ≤ sumTo np (fun i => f i * f i / c i) := by
  have h1 := by_parts e.piped.from_lt e.piped.to_lt h f
  rw [sum_ab e.ha e.hb e.hne (fun k hk h1 h2 => by rw [hf k hk, if_neg h1, if_neg h2]; grind), hf a e.ha, hf b e.hb, if_pos rfl, if_neg (fun x => e.hne x.symm), if_pos rfl, e.ea, e.eb] at h1
  have hE := e.energy
  generalize hCC : condAt np pf pt c a h = C at hC hE ⊢
  have hC0 : C ≠ 0 := by grind
  have h2 : 0 ≤ sumTo np (fun i => c i * ((f i / c i - 1 / C * (h (pf i) - h (pt i))) * (f i / c i - 1 / C * (h (pf i) - h (pt i))))) := by
    apply sumTo_nonneg
    intro i hi
    exact Rat.mul_nonneg (by have := e.piped.pos i hi; grind) (sq_nonneg_ _)
  have h3 : sumTo np (fun i => c i * ((f i / c i - 1 / C * (h (pf i) - h (pt i))) * (f i / c i - 1 / C * (h (pf i) - h (pt i))))) =
      sumTo np (fun i => f i * f i / c i) - 2 / C * sumTo np (fun i => f i * (h (pf i) - h (pt i))) + 1 / C * (1 / C) * Go.Proofs.YtdecgcdkaaiglaaGreat.cross np pf pt c h h := by
    unfold Go.Proofs.YtdecgcdkaaiglaaGreat.cross
    rw [← sumTo_mul, ← sumTo_mul, ← sumTo_sub, ← sumTo_add]
    apply sumTo_congr
    intro i hi
    have := e.piped.pos i hi
    have hc0 : c i ≠ 0 := by grind
    grind
  rw [h3, ← h1, hE] at h2
  clear h3 h1 hE hCC
  generalize sumTo np (fun i => f i * f i / c i) = S at h2 ⊢
  have h4 : 1 / C * (1 / C) * C = 1 / C := by grind
  have h5 : 2 / C = 1 / C + 1 / C := by grind
  rw [h4, h5] at h2
  grind
/-- its own flow, scaled, is a unit flow -/
theorem Eff.unit (e : Eff N np pf pt c a b h) (hC : 0 < condAt np pf pt c a h) : UnitFlow N np pf pt a b (fun i => c i * (h (pf i) - h (pt i)) / condAt np pf pt c a h) := by
  intro k hk
  have hs : divOf np pf pt (fun i => c i * (h (pf i) - h (pt i)) / condAt np pf pt c a h) k = 1 / condAt np pf pt c a h * flowTo np pf pt c h k := by
    rw [← div_flow]
    unfold divOf
    rw [← sumTo_mul]
    apply sumTo_congr
    intro i _
    by_cases h1 : pf i = k <;> by_cases h2 : pt i = k <;> simp only [h1, h2, if_true, if_false] <;> grind
  rw [hs]
  by_cases h1 : k = a
  · subst h1
    rw [if_pos rfl]
    show 1 / condAt np pf pt c k h * condAt np pf pt c k h = 1
    grind
  · rw [if_neg h1]
    by_cases h2 : k = b
    · subst h2
      rw [if_pos rfl, e.total]
      show 1 / condAt np pf pt c a h * -(condAt np pf pt c a h) = -1
      grind
    · rw [if_neg h2, e.flow k hk h1 h2]; grind
theorem Eff.own (e : Eff N np pf pt c a b h) (hC : 0 < condAt np pf pt c a h) :
    sumTo np (fun i => (c i * (h (pf i) - h (pt i)) / condAt np pf pt c a h) * (c i * (h (pf i) - h (pt i)) / condAt np pf pt c a h) / c i) = 1 / condAt np pf pt c a h := by
  have hE := e.energy
  generalize hCC : condAt np pf pt c a h = C at hC hE ⊢
  have hC0 : C ≠ 0 := by grind
  have h1 : sumTo np (fun i => (c i * (h (pf i) - h (pt i)) / C) * (c i * (h (pf i) - h (pt i)) / C) / c i) = 1 / C * (1 / C) * Go.Proofs.YtdecgcdkaaiglaaGreat.cross np pf pt c h h := by
    unfold Go.Proofs.YtdecgcdkaaiglaaGreat.cross
    rw [← sumTo_mul]
    apply sumTo_congr
    intro i hi
    have := e.piped.pos i hi
    have hc0 : c i ≠ 0 := by grind
    grind
  rw [h1, hE]
  grind
/-- the heads of a net that has 1 and 0 at two nodes -/
theorem Eff.of_heads {fx : Nat → Option Rat} {wl : Nat → Rat} {asked : Nat → Bool} (hp : Piped N np pf pt c) (ha : a < N) (hb : b < N) (hne : a ≠ b) (fa : fx a = some 1) (fb : fx b = some 0) (fo : ∀ k, k < N → k ≠ a → k ≠ b → fx k = none)
    (hw : ∀ k, k < N → wl k = 0) (has : ∀ k, k < N → (asked k = true ↔ Joined np pf pt (fun k => k = a) k)) (hj : Joined np pf pt (fun k => k = a) b) (hh : IsHeads N np pf pt c fx wl asked h) : Eff N np pf pt c a b h := by
  refine { piped := hp, ha := ha, hb := hb, hne := hne, ea := by have := hh a ha; rw [fa] at this; exact this, eb := by have := hh b hb; rw [fb] at this; exact this, flow := fun k hk h1 h2 => ?_ }
  have h3 := hh k hk
  rw [fo k hk h1 h2] at h3
  simp only at h3
  by_cases hk2 : asked k = true
  · rw [if_pos hk2, hw k hk] at h3
    rw [h3]; grind
  · rw [if_neg hk2] at h3
    have hz : ∀ j, j < N → ¬ Joined np pf pt (fun k => k = a) j → h j = 0 := by
      intro j hjN hjj
      have h4 := hh j hjN
      rw [fo j hjN (fun e => hjj (by rw [e]; exact .base rfl)) (fun e => hjj (by rw [e]; exact hj))] at h4
      simp only at h4
      rw [if_neg (fun e => hjj ((has j hjN).1 e))] at h4
      exact h4
    have hkj : ¬ Joined np pf pt (fun k => k = a) k := fun e => hk2 ((has k hk).2 e)
    have h0 := hz k hk hkj
    unfold flowTo
    rw [sumTo_congr (g := fun _ => 0) (fun i hi => ?_), sumTo_const0]
    by_cases e1 : pf i = k
    · have e2 : pt i ≠ k := fun e2 => hp.ne i hi (e1.trans e2.symm)
      have h5 := hz (pt i) (hp.to_lt i hi) (fun hJ => hkj (by rw [← e1]; exact .left hi hJ))
      rw [if_pos e1, if_neg e2, e1, h0, h5]; grind
    · by_cases e2 : pt i = k
      · have h5 := hz (pf i) (hp.from_lt i hi) (fun hJ => hkj (by rw [← e2]; exact .right hi hJ))
        rw [if_neg e1, if_pos e2, e2, h0, h5]; grind
      · rw [if_neg e1, if_neg e2]; grind
end
end Go.Proofs.YtdecgcdkaaiglaaGreat
