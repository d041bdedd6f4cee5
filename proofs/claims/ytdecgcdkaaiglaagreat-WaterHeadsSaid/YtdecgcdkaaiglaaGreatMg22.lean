/- Parts of the proof: memory, numbers, walks of the functions that are called. -/
import Derived.Deep.MidRow
import Derived.Test.YtdecgcdkaaiglaaGreatMg21
set_option linter.unusedVariables false
set_option linter.unusedSimpArgs false
namespace Go.Proofs.YtdecgcdkaaiglaaGreat
open Go.RowKit
def zgr (R : Nat -> Nat -> List UInt8) (j : Nat) : Value := str (R (j / 25) (j % 25))
def xS (M : Nat) (R : Nat -> Nat -> List UInt8) : List Value := (List.range (M * 25)).map (zgr R)
theorem Zr (M : Nat) (R : Nat -> Nat -> List UInt8) : (xS M R).length = M * 25 := by simp [xS]
theorem zaf {M : Nat} {R : Nat -> Nat -> List UInt8} {j : Nat} (hj : j < M * 25) : (xS M R)[j]? = some (zgr R j) := by
 unfold xS
 rw [List.getElem?_map, List.getElem?_range hj]
 rfl
theorem zs8 {R : Nat -> Nat -> List UInt8} {i c : Nat} (hc : c < 25) : zgr R (i * 25 + c) = str (R i c) := by
 unfold zgr
 rw [show (i * 25 + c) / 25 = i by omega, show (i * 25 + c) % 25 = c by omega]
theorem zww {M i c : Nat} (hi : i < M) (hc : c < 25) : i * 25 + c < M * 25 := by omega
def upd (R : Nat -> Nat -> List UInt8) (i c : Nat) (x : List UInt8) : Nat -> Nat -> List UInt8 := fun i' c' => if i' = i /\ c' = c then x else R i' c'
def zfc (R : Nat -> Nat -> List UInt8) (i : Nat) (r : Nat -> List UInt8) : Nat -> Nat -> List UInt8 := fun i' => if i' = i then r else R i'
def vC (r : Nat -> List UInt8) : List Value := (List.range 25).map fun c => str (r c)
theorem xA (r : Nat -> List UInt8) : (vC r).length = 25 := by simp [vC]
theorem zbw {r : Nat -> List UInt8} {c : Nat} (hc : c < 25) : (vC r)[c]? = some (str (r c)) := by
 unfold vC
 rw [List.getElem?_map, List.getElem?_range hc]
 rfl
theorem zbj (r : Nat -> List UInt8) : ∀ v ∈ vC r, v.oneCell' = true := by
 intro v hv
 obtain ⟨c, _, rfl⟩ := List.mem_map.1 hv
 rfl
def yv (w : World) (g M : Nat) (R : Nat -> Nat -> List UInt8) : Prop := Blk w g 106 (xS M R).toArray
section
variable {w w' : World} {g M : Nat} {R : Nat -> Nat -> List UInt8}
theorem yv.lt (h : yv w g M R) : g < w.heap.size := Blk.lt h
theorem yv.frozen (h : yv w g M R) (j : Nat) : w.frozen? ⟨g, j, none⟩ = false := Blk.frozen h j
theorem yv.below (h : yv w g M R) (hb : Below w.heap.size w w') : yv w' g M R := Blk.below h hb h.lt
theorem yv.cell (h : yv w g M R) {i c : Nat} (hi : i < M) (hc : c < 25) : w.cell? ⟨g, i * 25 + c, none⟩ = some (str (R i c)) := by
 unfold yv at h
 rw [h.cell, List.getElem?_toArray, zaf (zww hi hc), zs8 hc]
theorem zoh {i c : Nat} {x : List UInt8} (hc : c < 25) : (xS M R).set (i * 25 + c) (str x) = xS M (upd R i c x) := by
 apply List.ext_getElem
 . simp [xS]
 . intro j h1 h2
   rw [List.getElem_set]; have hj : j < M * 25 := by rw [List.length_set, Zr] at h1; exact h1
   have e1 : (xS M R)[j]'(by rw [Zr]; exact hj) = zgr R j := by simp [xS]
   have e2 : (xS M (upd R i c x))[j] = zgr (upd R i c x) j := by simp [xS]
   rw [e1, e2]; unfold zgr upd
   by_cases h : i * 25 + c = j
   . rw [if_pos h, if_pos (by omega)]
   . rw [if_neg h, if_neg (by omega)]
theorem yv.set_ (h : yv w g M R) {i c : Nat} (hc : c < 25) (x : List UInt8) : yv (w.setCell ⟨g, i * 25 + c, none⟩ (str x)) g M (upd R i c x) := by
 unfold yv at h |-
 have := h.set_ (i * 25 + c) (str x)
 rw [List.setIfInBounds_toArray, zoh hc] at this
 exact this
theorem yv.range (h : yv w g M R) {i : Nat} (hi : i < M) : w.rangeAt g (i * 25) (vC (R i)) := by
 intro j v hv
 have hj : j < 25 := by have := (List.getElem?_eq_some_iff.1 hv).1; rw [xA] at this; exact this
 rw [zbw hj] at hv
 injection hv with hv
 rw [<- hv]
 exact h.cell hi hj
theorem yv.there_ (h : yv w g M R) {i : Nat} (hi : i < M) : w.there g (i * 25) 25 := fun j hj => ⟨by rw [h.cell hi hj]; rfl, h.frozen _⟩
def zfo (cs : List Value) (o : Nat) : List Value -> List Value
 | [] => cs
 | v :: r => zfo (cs.set o v) (o + 1) r
theorem zkj (vs : List Value) : ∀ (cs : List Value) (o : Nat), (zfo cs o vs).length = cs.length := by
 induction vs with
 | nil => intro cs o; rfl
 | cons v r ih => intro cs o; unfold zfo; rw [ih]; simp
theorem zsv (vs : List Value) : ∀ (cs : List Value) (o j : Nat), j < cs.length -> (zfo cs o vs)[j]? = if o <= j /\ j < o + vs.length then vs[j - o]? else cs[j]? := by
 induction vs with
 | nil => intro cs o j hj; unfold zfo; rw [if_neg (by simp)]
 | cons v r ih =>
   intro cs o j hj; unfold zfo; rw [ih _ _ _ (by simpa using hj), List.getElem?_set]; simp only [List.length_cons]
   by_cases h1 : o = j
   . subst h1
     rw [if_neg (by omega), if_pos rfl, if_pos hj, if_pos (by omega)]; simp
   . rw [if_neg h1]
     by_cases h2 : o + 1 <= j /\ j < o + 1 + r.length
     . rw [if_pos h2, if_pos (by omega), show j - o = (j - (o + 1)) + 1 by omega]; simp
     . rw [if_neg h2, if_neg (by omega)]
theorem Blk.setCells {t : TypeId} (vs : List Value) : ∀ {w : World} {cs : List Value} (o : Nat), Blk w g t cs.toArray -> Blk (w.setCells g o vs) g t (zfo cs o vs).toArray := by
 induction vs with
 | nil => intro w cs o h; exact h
 | cons v r ih =>
   intro w cs o h; unfold zfo; have h2 := h.set_ o v; rw [List.setIfInBounds_toArray] at h2; exact ih (o + 1) h2
theorem yv.setRow (h : yv w g M R) {i : Nat} (hi : i < M) (r : Nat -> List UInt8) : yv (w.setCells g (i * 25) (vC r)) g M (zfc R i r) := by
 unfold yv at h |-
 have h2 := Blk.setCells (vC r) (i * 25) h
 have e : zfo (xS M R) (i * 25) (vC r) = xS M (zfc R i r) := by
  apply List.ext_getElem?
  intro j
  rcases Nat.lt_or_ge j (M * 25) with hj | hj
  . rw [zsv _ _ _ _ (by rw [Zr]; exact hj), zaf hj, zaf hj, xA]
    unfold zgr zfc
    by_cases h3 : i * 25 <= j /\ j < i * 25 + 25
    . rw [if_pos h3, zbw (by omega), if_pos (by omega), show j - i * 25 = j % 25 by omega]
    . rw [if_neg h3, if_neg (by omega)]
  . rw [List.getElem?_eq_none (by rw [zkj, Zr]; exact hj), List.getElem?_eq_none (by rw [Zr]; exact hj)]
 rw [e] at h2
 exact h2
end
end Go.Proofs.YtdecgcdkaaiglaaGreat
