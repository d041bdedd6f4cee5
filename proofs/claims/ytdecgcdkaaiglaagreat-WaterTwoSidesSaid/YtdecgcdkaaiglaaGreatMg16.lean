/- The walks of the reference's texts (4): a text as number. PRI80ED by gen_ref10.py. · The walks of the reference's numbers (6): Minus, Sign. · The walks of the reference's numbers (9): long, entered, Line of a number alone, must. · The walks of the reference's numbers (10): must; names. -/
import Derived.Below
import Derived.BigQuiet
import Derived.BigRegion
import Derived.Deep.AppendLies
import Derived.Deep.CutBlock
import Derived.Deep.DeepCutAuto
import Derived.Deep.DeepMust
import Derived.Deep.DrawnRows
import Derived.Deep.Draws
import Derived.Deep.OwnRows
import Derived.Deep.QuietTactic
import Derived.Deep.RegionHeld3
import Derived.Deep.RegionLawGrows
import Derived.Deep.RegionWith
import Derived.IntWalk
import Derived.Laws.BitsAllLaws
import Derived.Laws.MathBits
import Derived.Laws.OwnMore
import Derived.Laws.Rows
import Derived.Lib.BitFns
import Derived.Lib.Bytealg
import Derived.Lib.Index
import Derived.Lib.Slices
import Derived.Lib.Small
import Derived.Lib.Strings
import Derived.Lib.Walk
import Derived.LoopN
import Derived.Maps.AppendAt
import Derived.OwnWalk
import Derived.RegionTactic
import Derived.StillTailTactics
import Derived.WalkKit
import Derived.WalkLawsBesides
import Derived.WalkSpells
import Init.Data.List.Lemmas
import Derived.Test.YtdecgcdkaaiglaaGreatMg15
import Derived.Test.YtdecgcdkaaiglaaGreatMg01
set_option linter.unusedVariables false
set_option linter.unusedSimpArgs false
namespace Go.Proofs.YtdecgcdkaaiglaaGreat
open Go.RowKit Go.Deep
attribute [local go_sem ↓] Go.wp_at_zero Go.wp_at_succ
section
variable {W w0 : World} {g g' i n c m d k : Nat} {ng : Bool} {A B : Option Addr} {v : Value}
end
/-- A value of the form of a number of the reference. -/
def AggN (v : Value) : Prop := ∃ (ng : Bool) (A : Option Addr) (n c : Nat) (B : Option Addr) (m d : Nat), v = .agg #[.bool ng, .slice A n c, .slice B m d]
/-- A call gives the number of a text, and whether it is one. -/
def RetNum (w : World) (l : List UInt8) (e : Ending) (w' : World) : Prop :=
  ∃ v b, e = .returned (.tuple #[v, .bool b]) ∧ AggN v ∧ b = (readFrac l).isSome ∧ (∀ q, readFrac l = some q → RefIs w' v q) ∧ Below w.heap.size w w'
theorem RetNum.no {w w' : World} {l : List UInt8} {v : Value} (h : readFrac l = none) (hv : AggN v) (hb : Below w.heap.size w w') : RetNum w l (.returned (.tuple #[v, .bool false])) w' :=
  ⟨v, false, rfl, hv, by rw [h]; rfl, fun q hq => (by rw [h] at hq; cases hq), hb⟩
theorem RetNum.maybe {w w' : World} {l : List UInt8} {v : Value} {q : Rat} {b : Bool} (h : readFrac l = if fracText q = l then some q else none) (hb' : b = decide (fracText q = l)) (hv : RefIs w' v q) (hb : Below w.heap.size w w') :
    RetNum w l (.returned (.tuple #[v, .bool b])) w' := by
  subst hb'
  by_cases he : fracText q = l
  · rw [if_pos he] at h
    refine ⟨v, _, rfl, ?_, by rw [h, decide_eq_true he]; rfl, fun q' hq => ?_, hb⟩
    · obtain ⟨ng, A, n, c, B, m, d, rfl, _⟩ := hv; exact ⟨_, _, _, _, _, _, _, rfl⟩
    · rw [h] at hq; injection hq with hq; rw [← hq]; exact hv
  · rw [if_neg he] at h
    rw [decide_eq_false he]
    refine RetNum.no h ?_ hb
    obtain ⟨ng, A, n, c, B, m, d, rfl, _⟩ := hv; exact ⟨_, _, _, _, _, _, _, rfl⟩
end Go.Proofs.YtdecgcdkaaiglaaGreat
namespace Go.Proofs.YtdecgcdkaaiglaaGreat
open Go.RowKit Go.Deep
attribute [local go_sem ↓] Go.wp_at_zero Go.wp_at_succ
theorem NLen.neg {M : Nat} {x : Rat} (h : NLen M x) : NLen M (-x) := by
  unfold NLen at h ⊢
  rw [Rat.neg_num, Rat.neg_den, Int.natAbs_neg]
  exact h
theorem NLen.mono {M K : Nat} {x : Rat} (h : NLen M x) (hk : M ≤ K) : NLen K x := ⟨Nat.le_trans h.1 hk, Nat.le_trans h.2 hk⟩
end Go.Proofs.YtdecgcdkaaiglaaGreat
namespace Go.Proofs.YtdecgcdkaaiglaaGreat
open Go.RowKit Go.Deep
attribute [local go_sem ↓] Go.wp_at_zero Go.wp_at_succ
theorem ref_short_or (M : Nat) (q : Rat) : (!decide (Short M q)) = (decide (M < (dec q.num.natAbs).length) || decide (M < (dec q.den).length)) := by
  by_cases h1 : (dec q.num.natAbs).length ≤ M
  · by_cases h2 : (dec q.den).length ≤ M
    · rw [decide_eq_true (show Short M q from ⟨h1, h2⟩), decide_eq_false (by omega), decide_eq_false (by omega)]; rfl
    · rw [decide_eq_false (fun h : Short M q => h2 h.2), decide_eq_true (show M < (dec q.den).length by omega), Bool.or_true]; rfl
  · rw [decide_eq_false (fun h : Short M q => h1 h.1), decide_eq_true (show M < (dec q.num.natAbs).length by omega)]; rfl
end Go.Proofs.YtdecgcdkaaiglaaGreat
namespace Go.Proofs.YtdecgcdkaaiglaaGreat
open Go.RowKit Go.Deep
attribute [local go_sem ↓] Go.wp_at_zero Go.wp_at_succ
theorem nonempty_of_size {s : ByteArray} (h0 : 0 < s.size) : s.toList.isEmpty = false := by
  rw [Bool.eq_false_iff]
  intro e
  have e := List.isEmpty_iff.1 e
  have := congrArg List.length e
  rw [Lib.toList_data] at this
  simp at this
  rw [this] at h0
  exact absurd h0 (by decide)
theorem isLow_iff {c : UInt8} : isLow c = true ↔ 97 ≤ c.toNat ∧ c.toNat ≤ 122 := by
  unfold isLow; simp
theorem isSign_cases {c : UInt8} (h : isNameSign c = true) : (97 ≤ c.toNat ∧ c.toNat ≤ 122) ∨ (48 ≤ c.toNat ∧ c.toNat ≤ 57 ∧ c.toNat < 97) ∨ (c.toNat = 45) := by
  unfold isNameSign at h
  simp only [Bool.or_eq_true] at h
  rcases h with (h | h) | h
  · exact .inl (isLow_iff.1 h)
  · obtain ⟨h1, h2⟩ := isDig_bounds h
    exact .inr (.inl ⟨h1, h2, by omega⟩)
  · refine .inr (.inr ?_)
    rw [beq_iff_eq] at h
    rw [h]; rfl
theorem noSign_cases {c : UInt8} (h : isNameSign c = false) : (c.toNat < 48 ∧ c.toNat ≠ 45) ∨ (57 < c.toNat ∧ c.toNat < 97) ∨ (122 < c.toNat) := by
  have h1 : ¬ (97 ≤ c.toNat ∧ c.toNat ≤ 122) := by
    intro h2
    have := isLow_iff.2 h2
    unfold isNameSign at h; rw [this] at h; simp at h
  have h2 : ¬ (48 ≤ c.toNat ∧ c.toNat ≤ 57) := by
    intro h2
    have : isDig c = true := by unfold isDig; simp [h2]
    unfold isNameSign at h; rw [this] at h; simp at h
  have h3 : c.toNat ≠ 45 := by
    intro h3
    have : c = 45 := UInt8.toNat_inj.1 h3
    unfold isNameSign at h; rw [this] at h; simp at h
  omega
theorem name_head {s : ByteArray} (h : 0 < s.size) : (bts s).headD 0 = s[0] := by
  have h1 := bts_get s 0 h
  rw [List.headD_eq_head?_getD, List.head?_eq_getElem?, List.getElem?_eq_getElem (by rw [bts_length]; exact h), h1]; rfl
theorem name_no1 {s : ByteArray} (h : 0 < s.size) (h1 : isLow s[0] = false) : isName (bts s) = false := by
  unfold isName; rw [name_head h, h1]; simp
theorem name_no2 {s : ByteArray} {k : Nat} (h : k < s.size) (h1 : isNameSign s[k] = false) : isName (bts s) = false := by
  have : (bts s).all isNameSign = false := by
    rw [Bool.eq_false_iff]
    intro h2
    have h3 := List.all_eq_true.1 h2 ((bts s)[k]'(by rw [bts_length]; exact h)) (List.getElem_mem _)
    rw [bts_get s k h, h1] at h3; cases h3
  unfold isName; rw [this]; simp
theorem name_yes {s : ByteArray} (h : 0 < s.size) (h16 : s.size ≤ 16) (h1 : isLow s[0] = true) (h2 : ∀ j (hj : j < s.size), isNameSign s[j] = true) : isName (bts s) = true := by
  have : (bts s).all isNameSign = true := by
    rw [List.all_eq_true]
    intro c hc
    obtain ⟨j, hj, rfl⟩ := List.mem_iff_getElem.1 hc
    rw [bts_length] at hj
    rw [bts_get s j hj]
    exact h2 j hj
  unfold isName; rw [this, name_head h, h1, bts_length, decide_eq_true (show 1 ≤ s.size from h), decide_eq_true h16]; rfl
end Go.Proofs.YtdecgcdkaaiglaaGreat
