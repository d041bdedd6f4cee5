/- Memory: rows of 25 texts, one behind the other in a block. -/
import Derived.Below
import Derived.BigQuiet
import Derived.BigRegion
import Derived.Deep.AppendLies
import Derived.Deep.CutBlock
import Derived.Deep.DeepCutAuto
import Derived.Deep.DeepMust
import Derived.Deep.DrawnRows
import Derived.Deep.Draws
import Derived.Deep.LoopGhost
import Derived.Deep.MidRow
import Derived.Deep.OwnRows
import Derived.Deep.QuietTactic
import Derived.Deep.RegionHeld3
import Derived.Deep.RegionLawGrows
import Derived.Deep.RegionWith
import Derived.IntWalk
import Derived.Laws.BitsAllLaws
import Derived.Laws.MathBits
import Derived.Laws.OwnMore
import Derived.Laws.Rows
import Derived.Lib.BitFns
import Derived.Lib.Bytealg
import Derived.Lib.Index
import Derived.Lib.Slices
import Derived.Lib.Small
import Derived.Lib.Strings
import Derived.Lib.Walk
import Derived.LoopN
import Derived.Maps.AppendAt
import Derived.OwnWalk
import Derived.RegionTactic
import Derived.Scope
import Derived.StillTailTactics
import Derived.WalkKit
import Derived.WalkLawsBesides
import Derived.WalkMore
import Derived.WalkSpells
import Init.Data.List.Lemmas
import Derived.Test.YtdecgcdkaaiglaaGreatMg21
set_option linter.unusedVariables false
set_option linter.unusedSimpArgs false
namespace Go.Proofs.YtdecgcdkaaiglaaGreat
open Go.RowKit
def tcell (R : Nat → Nat → List UInt8) (j : Nat) : Value := str (R (j / 25) (j % 25))
def tcells (M : Nat) (R : Nat → Nat → List UInt8) : List Value := (List.range (M * 25)).map (tcell R)
theorem tcells_length (M : Nat) (R : Nat → Nat → List UInt8) : (tcells M R).length = M * 25 := by simp [tcells]
theorem tcells_get {M : Nat} {R : Nat → Nat → List UInt8} {j : Nat} (hj : j < M * 25) : (tcells M R)[j]? = some (tcell R j) := by
  unfold tcells
  rw [List.getElem?_map, List.getElem?_range hj]
  rfl
theorem tcell_at {R : Nat → Nat → List UInt8} {i c : Nat} (hc : c < 25) : tcell R (i * 25 + c) = str (R i c) := by
  unfold tcell
  rw [show (i * 25 + c) / 25 = i by omega, show (i * 25 + c) % 25 = c by omega]
theorem at_lt {M i c : Nat} (hi : i < M) (hc : c < 25) : i * 25 + c < M * 25 := by omega
/-- one text is another -/
def upd (R : Nat → Nat → List UInt8) (i c : Nat) (x : List UInt8) : Nat → Nat → List UInt8 := fun i' c' => if i' = i ∧ c' = c then x else R i' c'
/-- one row is another -/
def updRow (R : Nat → Nat → List UInt8) (i : Nat) (r : Nat → List UInt8) : Nat → Nat → List UInt8 := fun i' => if i' = i then r else R i'
def rowCells (r : Nat → List UInt8) : List Value := (List.range 25).map fun c => str (r c)
theorem rowCells_length (r : Nat → List UInt8) : (rowCells r).length = 25 := by simp [rowCells]
theorem rowCells_get {r : Nat → List UInt8} {c : Nat} (hc : c < 25) : (rowCells r)[c]? = some (str (r c)) := by
  unfold rowCells
  rw [List.getElem?_map, List.getElem?_range hc]
  rfl
theorem rowCells_one (r : Nat → List UInt8) : ∀ v ∈ rowCells r, v.oneCell' = true := by
  intro v hv
  obtain ⟨c, _, rfl⟩ := List.mem_map.1 hv
  rfl
/-- Block g is M rows of texts R. -/
def RowsIs (w : World) (g M : Nat) (R : Nat → Nat → List UInt8) : Prop := Blk w g 106 (tcells M R).toArray
section
variable {w w' : World} {g M : Nat} {R : Nat → Nat → List UInt8}
theorem RowsIs.lt (h : RowsIs w g M R) : g < w.heap.size := Blk.lt h
theorem RowsIs.frozen (h : RowsIs w g M R) (j : Nat) : w.frozen? ⟨g, j, none⟩ = false := Blk.frozen h j
theorem RowsIs.below (h : RowsIs w g M R) (hb : Below w.heap.size w w') : RowsIs w' g M R := Blk.below h hb h.lt
theorem RowsIs.cell (h : RowsIs w g M R) {i c : Nat} (hi : i < M) (hc : c < 25) : w.cell? ⟨g, i * 25 + c, none⟩ = some (str (R i c)) := by
  unfold RowsIs at h
  rw [h.cell, List.getElem?_toArray, tcells_get (at_lt hi hc), tcell_at hc]
theorem RowsIs.far (h : RowsIs w g M R) {p : Addr} (hp : g ≠ p.block) (u : Value) : RowsIs (w.setCell p u) g M R := Blk.far h hp u
theorem tcells_upd {i c : Nat} {x : List UInt8} (hc : c < 25) : (tcells M R).set (i * 25 + c) (str x) = tcells M (upd R i c x) := by
  apply List.ext_getElem
  · simp [tcells]
  · intro j h1 h2
    rw [List.getElem_set]
    have hj : j < M * 25 := by rw [List.length_set, tcells_length] at h1; exact h1
    have e1 : (tcells M R)[j]'(by rw [tcells_length]; exact hj) = tcell R j := by simp [tcells]
    have e2 : (tcells M (upd R i c x))[j] = tcell (upd R i c x) j := by simp [tcells]
    rw [e1, e2]
    unfold tcell upd
    by_cases h : i * 25 + c = j
    · rw [if_pos h, if_pos (by omega)]
    · rw [if_neg h, if_neg (by omega)]
theorem RowsIs.set_ (h : RowsIs w g M R) {i c : Nat} (hc : c < 25) (x : List UInt8) : RowsIs (w.setCell ⟨g, i * 25 + c, none⟩ (str x)) g M (upd R i c x) := by
  unfold RowsIs at h ⊢
  have := h.set_ (i * 25 + c) (str x)
  rw [List.setIfInBounds_toArray, tcells_upd hc] at this
  exact this
theorem RowsIs.range (h : RowsIs w g M R) {i : Nat} (hi : i < M) : w.rangeAt g (i * 25) (rowCells (R i)) := by
  intro j v hv
  have hj : j < 25 := by have := (List.getElem?_eq_some_iff.1 hv).1; rw [rowCells_length] at this; exact this
  rw [rowCells_get hj] at hv
  injection hv with hv
  rw [← hv]
  exact h.cell hi hj
theorem RowsIs.there_ (h : RowsIs w g M R) {i : Nat} (hi : i < M) : w.there g (i * 25) 25 := fun j hj => ⟨by rw [h.cell hi hj]; rfl, h.frozen _⟩
/-- a list written over another one, from a place on -/
def over_ (cs : List Value) (o : Nat) : List Value → List Value
  | [] => cs
  | v :: r => over_ (cs.set o v) (o + 1) r
theorem over_length (vs : List Value) : ∀ (cs : List Value) (o : Nat), (over_ cs o vs).length = cs.length := by
  induction vs with
  | nil => intro cs o; rfl
  | cons v r ih => intro cs o; unfold over_; rw [ih]; simp
theorem over_get (vs : List Value) : ∀ (cs : List Value) (o j : Nat), j < cs.length → (over_ cs o vs)[j]? = if o ≤ j ∧ j < o + vs.length then vs[j - o]? else cs[j]? := by
  induction vs with
  | nil => intro cs o j hj; unfold over_; rw [if_neg (by simp)]
  | cons v r ih =>
    intro cs o j hj
    unfold over_
    rw [ih _ _ _ (by simpa using hj), List.getElem?_set]
    simp only [List.length_cons]
    by_cases h1 : o = j
    · subst h1
      rw [if_neg (by omega), if_pos rfl, if_pos hj, if_pos (by omega)]; simp
    · rw [if_neg h1]
      by_cases h2 : o + 1 ≤ j ∧ j < o + 1 + r.length
      · rw [if_pos h2, if_pos (by omega), show j - o = (j - (o + 1)) + 1 by omega]; simp
      · rw [if_neg h2, if_neg (by omega)]
theorem Blk.setCells {t : TypeId} (vs : List Value) : ∀ {w : World} {cs : List Value} (o : Nat), Blk w g t cs.toArray → Blk (w.setCells g o vs) g t (over_ cs o vs).toArray := by
  induction vs with
  | nil => intro w cs o h; exact h
  | cons v r ih =>
    intro w cs o h
    unfold over_
    have h2 := h.set_ o v
    rw [List.setIfInBounds_toArray] at h2
    exact ih (o + 1) h2
theorem RowsIs.setRow (h : RowsIs w g M R) {i : Nat} (hi : i < M) (r : Nat → List UInt8) : RowsIs (w.setCells g (i * 25) (rowCells r)) g M (updRow R i r) := by
  unfold RowsIs at h ⊢
  have h2 := Blk.setCells (rowCells r) (i * 25) h
  have e : over_ (tcells M R) (i * 25) (rowCells r) = tcells M (updRow R i r) := by
    apply List.ext_getElem?
    intro j
    rcases Nat.lt_or_ge j (M * 25) with hj | hj
    · rw [over_get _ _ _ _ (by rw [tcells_length]; exact hj), tcells_get hj, tcells_get hj, rowCells_length]
      unfold tcell updRow
      by_cases h3 : i * 25 ≤ j ∧ j < i * 25 + 25
      · rw [if_pos h3, rowCells_get (by omega), if_pos (by omega), show j - i * 25 = j % 25 by omega]
      · rw [if_neg h3, if_neg (by omega)]
    · rw [List.getElem?_eq_none (by rw [over_length, tcells_length]; exact hj), List.getElem?_eq_none (by rw [tcells_length]; exact hj)]
  rw [e] at h2
  exact h2
end
end Go.Proofs.YtdecgcdkaaiglaaGreat
