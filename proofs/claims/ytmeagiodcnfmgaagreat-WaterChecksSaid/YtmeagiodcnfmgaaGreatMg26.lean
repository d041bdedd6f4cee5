/- The chapter's example: lives. · The walk of Great: nets that are more than statements look at. · The walk of WaterChecks. -/
import Derived.Below
import Derived.BigQuiet
import Derived.BigRegion
import Derived.Deep.AppendLies
import Derived.Deep.CutBlock
import Derived.Deep.DeepCutAuto
import Derived.Deep.DeepMust
import Derived.Deep.DrawnRows
import Derived.Deep.Draws
import Derived.Deep.LoopGhost
import Derived.Deep.MidRow
import Derived.Deep.OwnRows
import Derived.Deep.Quiet
import Derived.Deep.QuietTactic
import Derived.Deep.RegionHeld3
import Derived.Deep.RegionLawGrows
import Derived.Deep.RegionWith
import Derived.IntWalk
import Derived.Laws.BitsAllLaws
import Derived.Laws.MathBits
import Derived.Laws.OwnMore
import Derived.Laws.Rows
import Derived.Lib.BitFns
import Derived.Lib.Bytealg
import Derived.Lib.Index
import Derived.Lib.Slices
import Derived.Lib.Small
import Derived.Lib.Strings
import Derived.Lib.Walk
import Derived.LoopN
import Derived.Maps.AppendAt
import Derived.OwnWalk
import Derived.RegionTactic
import Derived.Scope
import Derived.StillTail
import Derived.StillTailTactics
import Derived.WalkKit
import Derived.WalkLawsBesides
import Derived.WalkMore
import Derived.WalkSpells
import Init.Data.List.Lemmas
import Derived.Test.YtmeagiodcnfmgaaGreatMg25
import Derived.Test.YtmeagiodcnfmgaaGreatMg20
set_option linter.unusedVariables false
set_option linter.unusedSimpArgs false
namespace Go.Proofs.YtmeagiodcnfmgaaGreat
open Go.RowKit Go.Deep
attribute [local go_sem ↓] Go.wp_at_zero Go.wp_at_succ
def exNet : Net := ⟨[[112, 105, 116], [109, 105, 100], [114, 105, 118, 101, 114]], [⟨[97], 0, 1, [49], [50]⟩, ⟨[98], 1, 2, [49], [49]⟩], [⟨0, [48]⟩, ⟨2, [57]⟩], []⟩
theorem frac_nat (k : Nat) : fracText (k : Rat) = dec k := by
  unfold fracText
  simp
  exact if_neg (by omega)
theorem dec1 : dec 1 = [49] := by simp [dec, digs]; rfl
theorem dec2 : dec 2 = [50] := by simp [dec, digs]; rfl
theorem dec3 : dec 3 = [51] := by simp [dec, digs]; rfl
theorem dec9 : dec 9 = [57] := by simp [dec, digs]; rfl
theorem short_nat {k : Nat} (h : k < 10) : Short 12 (k : Rat) := by
  refine Dz.short (e := 1) ⟨?_, ?_⟩ (by omega)
  · simp; omega
  · simp
theorem num_of {l : List UInt8} {q : Rat} (h : fracText q = l) (hs : Short 12 q) : readFrac l = some q ∧ numErr l = 0 ∧ numOf l = q := by
  have h1 : readFrac l = some q := by rw [← h]; exact readFrac_text (Dz.short (Short.sz hs) (by omega))
  refine ⟨h1, ?_, ?_⟩
  · unfold numErr; rw [h1]; simp only; rw [if_pos hs]
  · unfold numOf; rw [h1]; rfl
theorem num0 : numErr [48] = 0 ∧ numOf [48] = 0 := (num_of (q := ((0 : Nat) : Rat)) (by rw [frac_nat]; exact dec_zero) (short_nat (by omega))).2
theorem num1 : numErr [49] = 0 ∧ numOf [49] = 1 := (num_of (q := ((1 : Nat) : Rat)) (by rw [frac_nat]; exact dec1) (short_nat (by omega))).2
theorem num2 : numErr [50] = 0 ∧ numOf [50] = 2 := (num_of (q := ((2 : Nat) : Rat)) (by rw [frac_nat]; exact dec2) (short_nat (by omega))).2
theorem num9 : numErr [57] = 0 ∧ numOf [57] = 9 := (num_of (q := ((9 : Nat) : Rat)) (by rw [frac_nat]; exact dec9) (short_nat (by omega))).2
theorem ex_p5 : exNet.P5 := by
  have h1 : exNet.P1 := by unfold Net.P1; decide
  have h2 : exNet.P2 := ⟨h1, by decide⟩
  have h3 : exNet.P3 := ⟨h2, by decide, by
    apply firstErr_all.2
    intro k hk
    have hk : k < 2 := hk
    unfold Net.pipeErr
    rcases (show k = 0 ∨ k = 1 by omega) with rfl | rfl
    · simp [exNet, num1.1, num1.2, num2.1, num2.2, isName, isLow, isNameSign, isDig]; grind
    · simp [exNet, num1.1, num1.2, isName, isLow, isNameSign, isDig]; grind⟩
  have h4 : exNet.P4 := ⟨h3, by
    apply firstErr_all.2
    intro k hk
    have hk : k < 2 := hk
    unfold Net.levelErr
    rcases (show k = 0 ∨ k = 1 by omega) with rfl | rfl
    · simp [exNet, num0.1]
    · simp [exNet, num9.1]⟩
  exact ⟨h4, rfl⟩
theorem ex_err : exNet.err = 0 := by
  refine (Net.err_end ex_p5).2 fun k hk => ?_
  have hk : k < 3 := hk
  have h0 : Joined exNet.pipes.length exNet.pf exNet.pt (Net.on exNet.heads) 0 := .base ⟨⟨0, [48]⟩, by simp [exNet], rfl⟩
  have h2 : Joined exNet.pipes.length exNet.pf exNet.pt (Net.on exNet.heads) 2 := .base ⟨⟨2, [57]⟩, by simp [exNet], rfl⟩
  have h1 : Joined exNet.pipes.length exNet.pf exNet.pt (Net.on exNet.heads) 1 := .right (i := 0) (by decide) h0
  rcases (show k = 0 ∨ k = 1 ∨ k = 2 by omega) with rfl | rfl | rfl
  · exact h0
  · exact h1
  · exact h2
theorem ex_cond : condErr exNet [[50], [49]] = 0 := by
  unfold condErr
  rw [if_neg (by decide)]
  apply firstErr_all.2
  intro k hk
  have hk : k < 2 := hk
  unfold aboveErr
  rcases (show k = 0 ∨ k = 1 by omega) with rfl | rfl
  · simp [num2.1, num2.2]; grind
  · simp [num1.1, num1.2]; grind
theorem ex_heads {h : Nat → Rat} (hh : NetHeads exNet [[50], [49]] h) : fracText (h 0) = [48] ∧ fracText (h 1) = [51] ∧ fracText (h 2) = [57] := by
  have e0 := hh 0 (by decide)
  have e1 := hh 1 (by decide)
  have e2 := hh 2 (by decide)
  have f0 : Net.at_ exNet.heads 0 = some 0 := by simp [Net.at_, exNet, num0.2]
  have f1 : Net.at_ exNet.heads 1 = none := by simp [Net.at_, exNet]
  have f2 : Net.at_ exNet.heads 2 = some 9 := by simp [Net.at_, exNet, num9.2]
  rw [f0] at e0
  rw [f1] at e1
  rw [f2] at e2
  simp only at e0 e1 e2
  have ha : allOf exNet.nodes.length 1 = true := rfl
  rw [if_pos ha] at e1
  have hw : Net.at_ exNet.wells 1 = none := rfl
  rw [hw] at e1
  have c0 : condOf [[50], [49]] 0 = 2 := num2.2
  have c1 : condOf [[50], [49]] 1 = 1 := num1.2
  have hf : flowTo exNet.pipes.length exNet.pf exNet.pt (condOf [[50], [49]]) h 1 = 2 * (h 1 - h 0) + 1 * (h 1 - h 2) := by
    show flowTo 2 exNet.pf exNet.pt (condOf [[50], [49]]) h 1 = _
    rw [flowTo_succ, flowTo_succ, flowTo_zero]
    have p0 : exNet.pf 0 = 0 := rfl
    have p1 : exNet.pf 1 = 1 := rfl
    have q0 : exNet.pt 0 = 1 := rfl
    have q1 : exNet.pt 1 = 2 := rfl
    rw [p0, p1, q0, q1, c0, c1]
    simp
    grind
  rw [hf, e0, e2] at e1
  have h1 : h 1 = 3 := by simp at e1; grind
  refine ⟨?_, ?_, ?_⟩
  · rw [e0]; exact fracText_zero_iff.2 rfl
  · rw [h1]; exact (frac_nat 3).trans dec3
  · rw [e2]; exact (frac_nat 9).trans dec9
def SamR (la lb : List (List UInt8)) (w : World) (iv : Value) (wr : World) : Prop := ∃ i : Nat, i ≤ la.length ∧ iv = .int .i64 i ∧ Hid (la.take i = lb.take i) ∧ Hid (Below w.heap.size w wr)
set_option maxRecDepth 100000 in
set_option maxHeartbeats 4000000 in
theorem law_same (A B : Option Addr) (ca cb : Nat) (la lb : List (List UInt8)) (w : World) (hA : Reads w w.heap.size 1 A la.length (la.map str)) (hB : Reads w w.heap.size 1 B lb.length (lb.map str)) (h1 : la.length ≤ 1000) (h2 : lb.length ≤ 1000) :
    Calls Tryz.prog 19 #[.slice A la.length ca, .slice B lb.length cb] w (RetB w (.bool (decide (la = lb)))) := by
  have HA := hide hA
  have HB := hide hB
  have HW := hide (ext_refl w)
  obtain ⟨r, HR⟩ : ∃ r, Hid (decide (la = lb) = r) := ⟨_, hide rfl⟩
  rw [HR.out]
  clear hA hB
  by_cases hl : la.length = lb.length
  · have HL := hide hl
    have hI : ((la.length : Int) != (lb.length : Int)) = false := by rw [hl]; simp
    clear hl
    go_enter Tryz.func19, Tryz.ntmps19
    go_wp2_with fail
    go_loopw [5] (SamR la lb w) (fun iv _ => la.length - (intOf iv).toNat)
    case atStart => exact ⟨0, Nat.zero_le _, rfl, rfl, HW⟩
    case round =>
      clear HW
      obtain ⟨i, hi, rfl, HE, HW⟩ := hrel
      by_cases hlt : i < la.length
      · have hlb : i < lb.length := by have := HL.out; omega
        have hi1 : (i : Int) < (la.length : Int) := by omega
        have hi2 : (i : Int) < (lb.length : Int) := by omega
        obtain ⟨aa, ea, la1, qa⟩ : ∃ ad, A = some ad ∧ ad.block < wr.heap.size ∧ wr.cell? (ad.add i) = some (str la[i]) := by
          obtain ⟨ad, e, hb, hc⟩ := (HA.out.below HW.out).2 (by omega)
          exact ⟨ad, e, Nat.lt_of_lt_of_le hb HW.out.size, hc i _ (by simp [hlt])⟩
        obtain ⟨ab, eb, lb1, qb⟩ : ∃ ad, B = some ad ∧ ad.block < wr.heap.size ∧ wr.cell? (ad.add i) = some (str lb[i]) := by
          obtain ⟨ad, e, hb, hc⟩ := (HB.out.below HW.out).2 (by omega)
          exact ⟨ad, e, Nat.lt_of_lt_of_le hb HW.out.size, hc i _ (by simp [hlb])⟩
        subst ea
        subst eb
        by_cases he : la[i] = lb[i]
        · have HNX : Hid (la.take (i + 1) = lb.take (i + 1)) := hide (by rw [List.take_succ_eq_append_getElem hlt, List.take_succ_eq_append_getElem hlb, HE.out, he])
          rw [he] at qa
          have hs1 : (lb[i] == lb[i]) = true := by simp
          have hs2 : (lb[i] != lb[i]) = false := by simp
          clear he la1 lb1
          generalize lb[i] = x at qa qb hs1 hs2
          go_wp2_with fail
          go_quiet (fail)
          have hbB := ext_drewN wr nq
          have HW_ := hide (ext HW.out hbB)
          clear HW
          have HW := HW_
          clear HW_
          clear hbB
          generalize wr.drewN nq = WN at HW ⊢
          clear nq
          go_wp2_with fail
          go_round
          case rel => exact ⟨i + 1, by omega, by go_num, HNX, HW⟩
          case measure => simp [intOf]; omega
        · have HF : Hid (r = false) := hide (by
            rw [← HR.out, decide_eq_false_iff_not]
            intro e
            subst e
            exact he rfl)
          have hs1 : (la[i] == lb[i]) = false := by simpa using he
          have hs2 : (la[i] != lb[i]) = true := by simpa using he
          clear he la1 lb1
          generalize la[i] = x at qa hs1 hs2
          generalize lb[i] = y at qb hs1 hs2
          go_wp2_with fail
          go_quiet (fail)
          have hbB := ext_drewN wr nq
          have HW_ := hide (ext HW.out hbB)
          clear HW
          have HW := HW_
          clear HW_
          clear hbB
          generalize wr.drewN nq = WN at HW ⊢
          clear nq
          go_wp2_with fail
          go_ret
          exact ⟨ret_bool HF.out, HW.out⟩
      · obtain rfl : i = la.length := by omega
        have HF : Hid (r = true) := hide (by
          rw [← HR.out, decide_eq_true_iff]
          have h := HE.out
          rw [List.take_length, HL.out, List.take_length] at h
          exact h)
        go_wp2_with fail
        go_ret
        exact ⟨ret_bool HF.out, HW.out⟩
  · have HF : Hid (r = false) := hide (by
      rw [← HR.out, decide_eq_false_iff_not]
      intro e
      exact hl (by rw [e]))
    have hI : ((la.length : Int) != (lb.length : Int)) = true := by rw [bne_iff_ne]; omega
    clear hl
    go_enter Tryz.func19, Tryz.ntmps19
    go_wp2_with fail
    go_ret
    exact ⟨ret_bool HF.out, HW.out⟩
theorem reads_blk {w : World} {g size n : Nat} {t : TypeId} {cs : List Value} (h : Blk w g t cs.toArray) (hn : cs.length = n * size) : Reads w w.heap.size size (some ⟨g, 0, none⟩) n cs := by
  refine ⟨hn, fun _ => ⟨_, rfl, h.lt, fun j u hu => ?_⟩⟩
  have e : (⟨g, 0, none⟩ : Addr).add j = ⟨g, j, none⟩ := by
    unfold Addr.add
    by_cases hj : j = 0
    · subst hj; rfl
    · simp [hj]
  rw [e, h.cell j, List.getElem?_toArray]
  exact hu
def RetNet (n : Net) (w : World) (e : Ending) (w' : World) : Prop := ∃ v, e = .returned v ∧ NetIs w' v n ∧ Below w.heap.size w w'
set_option maxRecDepth 100000 in
set_option maxHeartbeats 4000000 in
theorem law_example (w : World) : Calls Tryz.prog 18 #[] w (RetNet exNet w) := by
  have h1 : Blk ((((w.alloc (.cells #[.slice (some ⟨w.heap.size + 1, 0, none⟩) 3 3, .slice (some ⟨w.heap.size + 1 + 1, 0, none⟩) 2 2, .slice (some ⟨w.heap.size + 1 + 1 + 1, 0, none⟩) 2 2, .slice none 0 0] 26)).alloc (.cells ([str [112, 105, 116], str [109, 105, 100], str [114, 105, 118, 101, 114]] : List Value).toArray 9)).alloc (.cells ([str [97], .int .i64 0, .int .i64 1, str [49], str [50], str [98], .int .i64 1, .int .i64 2, str [49], str [49]] : List Value).toArray 33)).alloc (.cells ([.int .i64 0, str [48], .int .i64 2, str [57]] : List Value).toArray 35)) w.heap.size 26 #[.slice (some ⟨w.heap.size + 1, 0, none⟩) 3 3, .slice (some ⟨w.heap.size + 1 + 1, 0, none⟩) 2 2, .slice (some ⟨w.heap.size + 1 + 1 + 1, 0, none⟩) 2 2, .slice none 0 0] := (((Blk.new w _ _).alloc _).alloc _).alloc _
  have h2 : Blk ((((w.alloc (.cells #[.slice (some ⟨w.heap.size + 1, 0, none⟩) 3 3, .slice (some ⟨w.heap.size + 1 + 1, 0, none⟩) 2 2, .slice (some ⟨w.heap.size + 1 + 1 + 1, 0, none⟩) 2 2, .slice none 0 0] 26)).alloc (.cells ([str [112, 105, 116], str [109, 105, 100], str [114, 105, 118, 101, 114]] : List Value).toArray 9)).alloc (.cells ([str [97], .int .i64 0, .int .i64 1, str [49], str [50], str [98], .int .i64 1, .int .i64 2, str [49], str [49]] : List Value).toArray 33)).alloc (.cells ([.int .i64 0, str [48], .int .i64 2, str [57]] : List Value).toArray 35)) (w.heap.size + 1) 9 ([str [112, 105, 116], str [109, 105, 100], str [114, 105, 118, 101, 114]] : List Value).toArray := by
    have h := ((Blk.new (w.alloc (.cells #[.slice (some ⟨w.heap.size + 1, 0, none⟩) 3 3, .slice (some ⟨w.heap.size + 1 + 1, 0, none⟩) 2 2, .slice (some ⟨w.heap.size + 1 + 1 + 1, 0, none⟩) 2 2, .slice none 0 0] 26)) 9 ([str [112, 105, 116], str [109, 105, 100], str [114, 105, 118, 101, 114]] : List Value).toArray).alloc (.cells ([str [97], .int .i64 0, .int .i64 1, str [49], str [50], str [98], .int .i64 1, .int .i64 2, str [49], str [49]] : List Value).toArray 33)).alloc (.cells ([.int .i64 0, str [48], .int .i64 2, str [57]] : List Value).toArray 35)
    simp only [World.size_alloc] at h
    exact h
  have h3 : Blk ((((w.alloc (.cells #[.slice (some ⟨w.heap.size + 1, 0, none⟩) 3 3, .slice (some ⟨w.heap.size + 1 + 1, 0, none⟩) 2 2, .slice (some ⟨w.heap.size + 1 + 1 + 1, 0, none⟩) 2 2, .slice none 0 0] 26)).alloc (.cells ([str [112, 105, 116], str [109, 105, 100], str [114, 105, 118, 101, 114]] : List Value).toArray 9)).alloc (.cells ([str [97], .int .i64 0, .int .i64 1, str [49], str [50], str [98], .int .i64 1, .int .i64 2, str [49], str [49]] : List Value).toArray 33)).alloc (.cells ([.int .i64 0, str [48], .int .i64 2, str [57]] : List Value).toArray 35)) (w.heap.size + 1 + 1) 33 ([str [97], .int .i64 0, .int .i64 1, str [49], str [50], str [98], .int .i64 1, .int .i64 2, str [49], str [49]] : List Value).toArray := by
    have h := (Blk.new ((w.alloc (.cells #[.slice (some ⟨w.heap.size + 1, 0, none⟩) 3 3, .slice (some ⟨w.heap.size + 1 + 1, 0, none⟩) 2 2, .slice (some ⟨w.heap.size + 1 + 1 + 1, 0, none⟩) 2 2, .slice none 0 0] 26)).alloc (.cells ([str [112, 105, 116], str [109, 105, 100], str [114, 105, 118, 101, 114]] : List Value).toArray 9)) 33 ([str [97], .int .i64 0, .int .i64 1, str [49], str [50], str [98], .int .i64 1, .int .i64 2, str [49], str [49]] : List Value).toArray).alloc (.cells ([.int .i64 0, str [48], .int .i64 2, str [57]] : List Value).toArray 35)
    simp only [World.size_alloc] at h
    exact h
  have h4 : Blk ((((w.alloc (.cells #[.slice (some ⟨w.heap.size + 1, 0, none⟩) 3 3, .slice (some ⟨w.heap.size + 1 + 1, 0, none⟩) 2 2, .slice (some ⟨w.heap.size + 1 + 1 + 1, 0, none⟩) 2 2, .slice none 0 0] 26)).alloc (.cells ([str [112, 105, 116], str [109, 105, 100], str [114, 105, 118, 101, 114]] : List Value).toArray 9)).alloc (.cells ([str [97], .int .i64 0, .int .i64 1, str [49], str [50], str [98], .int .i64 1, .int .i64 2, str [49], str [49]] : List Value).toArray 33)).alloc (.cells ([.int .i64 0, str [48], .int .i64 2, str [57]] : List Value).toArray 35)) (w.heap.size + 1 + 1 + 1) 35 ([.int .i64 0, str [48], .int .i64 2, str [57]] : List Value).toArray := by
    have h := Blk.new (((w.alloc (.cells #[.slice (some ⟨w.heap.size + 1, 0, none⟩) 3 3, .slice (some ⟨w.heap.size + 1 + 1, 0, none⟩) 2 2, .slice (some ⟨w.heap.size + 1 + 1 + 1, 0, none⟩) 2 2, .slice none 0 0] 26)).alloc (.cells ([str [112, 105, 116], str [109, 105, 100], str [114, 105, 118, 101, 114]] : List Value).toArray 9)).alloc (.cells ([str [97], .int .i64 0, .int .i64 1, str [49], str [50], str [98], .int .i64 1, .int .i64 2, str [49], str [49]] : List Value).toArray 33)) 35 ([.int .i64 0, str [48], .int .i64 2, str [57]] : List Value).toArray
    simp only [World.size_alloc] at h
    exact h
  have HW : Hid (Below w.heap.size w ((((w.alloc (.cells #[.slice (some ⟨w.heap.size + 1, 0, none⟩) 3 3, .slice (some ⟨w.heap.size + 1 + 1, 0, none⟩) 2 2, .slice (some ⟨w.heap.size + 1 + 1 + 1, 0, none⟩) 2 2, .slice none 0 0] 26)).alloc (.cells ([str [112, 105, 116], str [109, 105, 100], str [114, 105, 118, 101, 114]] : List Value).toArray 9)).alloc (.cells ([str [97], .int .i64 0, .int .i64 1, str [49], str [50], str [98], .int .i64 1, .int .i64 2, str [49], str [49]] : List Value).toArray 33)).alloc (.cells ([.int .i64 0, str [48], .int .i64 2, str [57]] : List Value).toArray 35))) := hide (ext (ext (ext (ext_alloc w _) (ext_alloc _ _)) (ext_alloc _ _)) (ext_alloc _ _))
  have r0 := h1.cell 0
  have r1 := h1.cell 1
  have r2 := h1.cell 2
  have r3 := h1.cell 3
  have H2 := hide (reads_blk (size := 1) (n := 3) h2 rfl)
  have H3 := hide (reads_blk (size := 5) (n := 2) h3 rfl)
  have H4 := hide (reads_blk (size := 2) (n := 2) h4 rfl)
  simp only [List.getElem?_toArray, List.getElem?_cons_zero, List.getElem?_cons_succ] at r0 r1 r2 r3
  clear h1 h2 h3 h4
  go_enter Tryz.func18, Tryz.ntmps18
  go_wp2_with fail
  generalize ((((w.alloc (.cells #[.slice (some ⟨w.heap.size + 1, 0, none⟩) 3 3, .slice (some ⟨w.heap.size + 1 + 1, 0, none⟩) 2 2, .slice (some ⟨w.heap.size + 1 + 1 + 1, 0, none⟩) 2 2, .slice none 0 0] 26)).alloc (.cells ([str [112, 105, 116], str [109, 105, 100], str [114, 105, 118, 101, 114]] : List Value).toArray 9)).alloc (.cells ([str [97], .int .i64 0, .int .i64 1, str [49], str [50], str [98], .int .i64 1, .int .i64 2, str [49], str [49]] : List Value).toArray 33)).alloc (.cells ([.int .i64 0, str [48], .int .i64 2, str [57]] : List Value).toArray 35)) = WE at HW H2 H3 H4 r0 r1 r2 r3 ⊢
  refine bodyPost_ret (v := .agg #[.slice (some ⟨w.heap.size + 1, 0, none⟩) 3 3, .slice (some ⟨w.heap.size + 1 + 1, 0, none⟩) 2 2, .slice (some ⟨w.heap.size + 1 + 1 + 1, 0, none⟩) 2 2, .slice none 0 0]) (by simp [results, Tryz.results18, go_sem, r0, r1, r2, r3]) rfl ?_
  refine ⟨_, rfl, ⟨_, _, _, _, _, _, _, _, _, _, _, _, rfl, ⟨_, _, rfl, by decide, by unfold maxLen; decide, by decide, H2.out, ?_⟩, ⟨_, _, rfl, by decide, by unfold maxLen; decide, by decide, H3.out, ?_⟩, ⟨_, _, rfl, by decide, by unfold maxLen; decide, by decide, H4.out, ?_⟩, ⟨_, _, rfl, by decide, by unfold maxLen; decide, by decide, Reads.none_, ?_⟩⟩, HW.out⟩
  · intro x hx; simp [exNet] at hx; rcases hx with rfl | rfl | rfl <;> (unfold SmallS; simp)
  · intro x hx; simp [exNet] at hx; rcases hx with rfl | rfl <;> (unfold SmallS; simp)
  · intro x hx; simp [exNet] at hx; rcases hx with rfl | rfl <;> (unfold SmallS; simp)
  · intro x hx; simp [exNet] at hx
theorem ex_ask : askErr exNet [[50], [49]] = 0 := by
  unfold askErr
  rw [if_neg (by rw [ex_err]; decide)]
  exact ex_cond
theorem nodes_of {w : World} {A : Option Addr} {n c : Nat} {l : List (List UInt8)} (h : Reads w w.heap.size 1 A n (l.map str)) (hn : n = l.length) (hc : n ≤ c) (hm : c ≤ 1000) (hs : ∀ x ∈ l, SmallS x) : NodesIs w (.slice A n c) l := by
  subst hn
  exact ⟨A, c, rfl, hc, by unfold maxLen; omega, by omega, h, hs⟩
set_option maxRecDepth 100000 in
set_option maxHeartbeats 4000000 in
theorem law_lives (w : World) : Calls Tryz.prog 7 #[] w (RetB w (.bool true)) := by
  go_enter Tryz.func7, Tryz.ntmps7
  go_wp2_with fail
  refine (law_example _).mono ?_
  rintro e w1 ⟨v, rfl, hnet, hb1⟩
  have HNET := hide hnet
  have HW := hide hb1
  clear hnet hb1
  have hx := ext_alloc w1 (.cells ([str [50], str [49]] : List Value).toArray 31)
  have hrd := reads_blk (size := 1) (n := 2) (Blk.new w1 31 ([str [50], str [49]] : List Value).toArray) rfl
  have hh := water_Heads v (.slice (some ⟨w1.heap.size, 0, none⟩) 2 2) exNet [[50], [49]] _ (HNET.out.below hx) (nodes_of (l := [[50], [49]]) hrd rfl (by omega) (by omega) (by intro x hx; simp at hx; rcases hx with rfl | rfl <;> (unfold SmallS; simp))) (fun _ => ⟨by decide, by decide⟩)
  have HW2 := hide (ext HW.out hx)
  clear hx hrd
  go_wp2_with fail
  refine hh.mono ?_
  rintro e w2 ⟨hb2, h | ⟨_, A, cap, h, rfl, hcap, hnh, _, hr⟩⟩
  · exact absurd ex_ask h.1
  · obtain ⟨f0, f1, f2⟩ := ex_heads hnh
    have e1 : (row exNet.nodes.length fun k => str (fracText (h k))) = ([[48], [51], [57]] : List (List UInt8)).map str := by
      show (row 3 fun k => str (fracText (h k))) = _
      unfold row
      simp [List.range_succ, f0, f1, f2]
    rw [e1] at hr
    have HR := hide hr
    have HW3 := hide (ext HW2.out hb2)
    clear hh hb2 hnh hr hcap f0 f1 f2 e1 HNET
    have hlen : exNet.nodes.length = 3 := rfl
    rw [hlen] at HR ⊢
    have hx := ext_alloc w2 (.cells ([str [48], str [51], str [57]] : List Value).toArray 31)
    have hrd := reads_blk (size := 1) (n := 3) (Blk.new w2 31 ([str [48], str [51], str [57]] : List Value).toArray) rfl
    have hs := law_same A (some ⟨w2.heap.size, 0, none⟩) cap 3 [[48], [51], [57]] [[48], [51], [57]] _ ((HR.out.below hx).more hx.size) hrd (by decide) (by decide)
    have HW4 := hide (ext HW3.out hx)
    rw [decide_eq_true rfl] at hs
    clear hx hrd hlen
    go_wp2_with fail
    refine hs.mono ?_
    rintro e w3 ⟨rfl, hb3⟩
    have HW5 := hide (ext HW4.out hb3)
    clear hb3 hs
    go_wp2_with fail
    go_ret
    exact ⟨rfl, HW5.out⟩
end Go.Proofs.YtmeagiodcnfmgaaGreat
namespace Go.Proofs.YtmeagiodcnfmgaaGreat
open Go.RowKit Go.Deep
attribute [local go_sem ↓] Go.wp_at_zero Go.wp_at_succ
/-- A text as great as any. -/
def WideS (l : List UInt8) : Prop := l.length ≤ 140737488355328
/-- A net in memory, of whatever size. -/
def NetWide (w : World) (v : Value) (n : Net) : Prop :=
  ∃ A0 c0 A1 c1 A2 c2 A3 c3, v = .agg #[.slice A0 n.nodes.length c0, .slice A1 n.pipes.length c1, .slice A2 n.heads.length c2, .slice A3 n.wells.length c3] ∧
    (n.nodes.length ≤ c0 ∧ c0 ≤ maxLen ∧ Reads w w.heap.size 1 A0 n.nodes.length (n.nodes.map str) ∧ ∀ x ∈ n.nodes, WideS x) ∧
    (n.pipes.length ≤ c1 ∧ c1 ≤ maxLen ∧ Reads w w.heap.size 5 A1 n.pipes.length (pipesCells n.pipes) ∧ ∀ x ∈ n.pipes, WideS x.name ∧ WideS x.low ∧ WideS x.high) ∧
    (n.heads.length ≤ c2 ∧ c2 ≤ maxLen ∧ Reads w w.heap.size 2 A2 n.heads.length (levelsCells n.heads) ∧ ∀ x ∈ n.heads, WideS x.value) ∧
    (n.wells.length ≤ c3 ∧ c3 ≤ maxLen ∧ Reads w w.heap.size 2 A3 n.wells.length (levelsCells n.wells) ∧ ∀ x ∈ n.wells, WideS x.value)
def sumLen {α : Type} (f : α → Nat) (l : List α) : Nat := (l.map f).sum
theorem sumLen_succ {α : Type} {f : α → Nat} {l : List α} {k : Nat} (hk : k < l.length) : sumLen f (l.take (k + 1)) = sumLen f (l.take k) + f l[k] := by
  unfold sumLen
  rw [List.take_succ_eq_append_getElem hk, List.map_append, List.sum_append]
  simp
theorem sumLen_le {α : Type} {f : α → Nat} {l : List α} {B : Nat} (h : ∀ x ∈ l, f x ≤ B) : ∀ k, k ≤ l.length → sumLen f (l.take k) ≤ k * B := by
  intro k
  induction k with
  | zero => intro _; simp [sumLen]
  | succ k ih =>
    intro hk
    rw [sumLen_succ (by omega), Nat.succ_mul]
    have := ih (by omega)
    have := h _ (List.getElem_mem (show k < l.length by omega))
    omega
theorem sumLen_mem {α : Type} {f : α → Nat} {l : List α} {x : α} (h : x ∈ l) : f x ≤ sumLen f l := by
  induction l with
  | nil => cases h
  | cons a l ih =>
    unfold sumLen at ih ⊢
    rw [List.map_cons, List.sum_cons]
    rcases List.mem_cons.1 h with rfl | h
    · omega
    · have := ih h; omega
def pipeLen (p : Pipe) : Nat := p.name.length + (p.low.length + p.high.length)
def levelLen (v : Level) : Nat := v.value.length
def netLen (n : Net) : Nat := sumLen List.length n.nodes + sumLen pipeLen n.pipes + sumLen levelLen n.heads + sumLen levelLen n.wells
/-- a net is more than statements look at -/
def isGreat (n : Net) : Bool :=
  decide ((6 < n.nodes.length ∧ n.nodes.length ≤ 24) ∨ 40 < n.nodes.length ∨ (9 < n.pipes.length ∧ n.pipes.length ≤ 48) ∨ 60 < n.pipes.length ∨ 30 < n.heads.length ∨ 30 < n.wells.length ∨ 1500 < netLen n)
def GrtR (N : Nat) (f : Nat → Nat) (w : World) (nb : Array Value) (sv iv : Value) (wr : World) : Prop :=
  ∃ i : Nat, i ≤ N ∧ iv = .int .i64 i ∧ sv = .int .i64 (f i) ∧ Hid (Blk wr w.heap.size 26 nb) ∧ Hid (Below w.heap.size w wr)
theorem pipes_at {w : World} {A : Option Addr} {n B : Nat} {l : List Pipe} (h4 : Reads w B 5 A n (pipesCells l)) {k : Nat} (hk : k < l.length) :
    ∃ ad, A = some ad ∧ ad.block < B ∧ w.cell? (ad.add (k * 5)) = some (str l[k].name) ∧ w.cell? ⟨(ad.add (k * 5)).block, (ad.add (k * 5)).off + 1, none⟩ = some (.int .i64 l[k].from_) ∧
      w.cell? ⟨(ad.add (k * 5)).block, (ad.add (k * 5)).off + 2, none⟩ = some (.int .i64 l[k].to_) ∧ w.cell? ⟨(ad.add (k * 5)).block, (ad.add (k * 5)).off + 3, none⟩ = some (str l[k].low) ∧
      w.cell? ⟨(ad.add (k * 5)).block, (ad.add (k * 5)).off + 4, none⟩ = some (str l[k].high) := by
  obtain ⟨g1, g2, g3, g4, g5⟩ := pipesCells_get hk
  have hn : 0 < n := by
    rcases Nat.eq_zero_or_pos n with h0 | h0
    · subst h0
      have := h4.1
      rw [pipesCells_length] at this
      omega
    · exact h0
  obtain ⟨ad, rfl, hb, hc⟩ := h4.2 hn
  rw [Nat.mul_comm] at g1 g2 g3 g4 g5
  exact ⟨ad, rfl, hb, hc _ _ g1, by rw [addr_field ad (k * 5) 0]; exact hc _ _ g2, by rw [addr_field ad (k * 5) 1]; exact hc _ _ g3, by rw [addr_field ad (k * 5) 2]; exact hc _ _ g4, by rw [addr_field ad (k * 5) 3]; exact hc _ _ g5⟩
theorem levels_at {w : World} {A : Option Addr} {n B : Nat} {l : List Level} (h4 : Reads w B 2 A n (levelsCells l)) {k : Nat} (hk : k < l.length) :
    ∃ ad, A = some ad ∧ ad.block < B ∧ w.cell? (ad.add (k * 2)) = some (.int .i64 l[k].node) ∧ w.cell? ⟨(ad.add (k * 2)).block, (ad.add (k * 2)).off + 1, none⟩ = some (str l[k].value) := by
  obtain ⟨g1, g2⟩ := levelsCells_get hk
  have hn : 0 < n := by
    rcases Nat.eq_zero_or_pos n with h0 | h0
    · subst h0
      have := h4.1
      rw [levelsCells_length] at this
      omega
    · exact h0
  obtain ⟨ad, rfl, hb, hc⟩ := h4.2 hn
  rw [Nat.mul_comm] at g1 g2
  exact ⟨ad, rfl, hb, hc _ _ g1, by rw [addr_field ad (k * 2) 0]; exact hc _ _ g2⟩
set_option maxRecDepth 100000 in
set_option maxHeartbeats 16000000 in
theorem law_great (v : Value) (n : Net) (w : World) (hn : NetWide w v n) : Calls Tryz.prog 4 #[v] w (RetB w (.bool (isGreat n))) := by
  obtain ⟨A0, c0, A1, c1, A2, c2, A3, c3, rfl, ⟨a1, a2, a3, a4⟩, ⟨b1, b2, b3, b4⟩, ⟨d1, d2, d3, d4⟩, ⟨e1, e2, e3, e4⟩⟩ := hn
  have HW := hide (ext_alloc w (.cells #[.slice A0 n.nodes.length c0, .slice A1 n.pipes.length c1, .slice A2 n.heads.length c2, .slice A3 n.wells.length c3] 26))
  have HK := hide (Blk.new w 26 #[.slice A0 n.nodes.length c0, .slice A1 n.pipes.length c1, .slice A2 n.heads.length c2, .slice A3 n.wells.length c3])
  obtain ⟨r, HR⟩ : ∃ r, Hid (isGreat n = r) := ⟨_, hide rfl⟩
  rw [HR.out]
  have HA := hide a3
  have HB := hide b3
  have HD := hide d3
  have HE := hide e3
  have HA4 := hide a4
  have HB4 := hide b4
  have HD4 := hide d4
  have HE4 := hide e4
  obtain ⟨k0, hk0⟩ : ∃ k, k = n.nodes.length := ⟨_, rfl⟩
  obtain ⟨k1, hk1⟩ : ∃ k, k = n.pipes.length := ⟨_, rfl⟩
  obtain ⟨k2, hk2⟩ : ∃ k, k = n.heads.length := ⟨_, rfl⟩
  obtain ⟨k3, hk3⟩ : ∃ k, k = n.wells.length := ⟨_, rfl⟩
  rw [← hk0, ← hk1, ← hk2, ← hk3] at HW HK ⊢
  rw [← hk0] at HA
  rw [← hk1] at HB
  rw [← hk2] at HD
  rw [← hk3] at HE
  have HK0 := hide hk0
  have HK1 := hide hk1
  have HK2 := hide hk2
  have HK3 := hide hk3
  have HRD : Hid (decide ((6 < k0 ∧ k0 ≤ 24) ∨ 40 < k0 ∨ (9 < k1 ∧ k1 ≤ 48) ∨ 60 < k1 ∨ 30 < k2 ∨ 30 < k3 ∨ 1500 < netLen n) = r) := hide (by rw [← HR.out, hk0, hk1, hk2, hk3]; rfl)
  clear a1 a2 a3 a4 b1 b2 b3 b4 d1 d2 d3 d4 e1 e2 e3 e4 hk0 hk1 hk2 hk3 HR
  have r0 := HK.out.cell 0
  have r1 := HK.out.cell 1
  have r2 := HK.out.cell 2
  have r3 := HK.out.cell 3
  have rL := HK.out.lt
  simp at r0 r1 r2 r3
  rcases (show (6 < k0 ∧ k0 ≤ 24) ∨ (6 < k0 ∧ 24 < k0 ∧ 40 < k0) ∨ k0 ≤ 6 ∨ (6 < k0 ∧ 24 < k0 ∧ k0 ≤ 40) by omega) with g | g | g | g
  · obtain ⟨g1, g2⟩ := g
    have g3 : (6 : Int) < (k0 : Int) := by omega
    have g4 : (k0 : Int) ≤ 24 := by omega
    (have HF : Hid (r = true) := hide (by rw [← HRD.out, decide_eq_true_iff]; omega); clear HRD; go_enter Tryz.func4, Tryz.ntmps4; go_wp2_with fail; go_ret; exact ⟨ret_bool HF.out, HW.out⟩)
  · obtain ⟨g1, g2, g2'⟩ := g
    have g3 : (6 : Int) < (k0 : Int) := by omega
    have g4 : ¬ (k0 : Int) ≤ 24 := by omega
    have g5 : (40 : Int) < (k0 : Int) := by omega
    (have HF : Hid (r = true) := hide (by rw [← HRD.out, decide_eq_true_iff]; omega); clear HRD; go_enter Tryz.func4, Tryz.ntmps4; go_wp2_with fail; go_ret; exact ⟨ret_bool HF.out, HW.out⟩)
  all_goals
    first | (have g3 : ¬ (6 : Int) < (k0 : Int) := (by omega)) | (have g3 : (6 : Int) < (k0 : Int) := (by omega); have g4 : ¬ (k0 : Int) ≤ 24 := (by omega))
    have g5 : ¬ (40 : Int) < (k0 : Int) := by omega
    have hN40 : k0 ≤ 40 := by omega
    rcases (show (9 < k1 ∧ k1 ≤ 48) ∨ (9 < k1 ∧ 48 < k1 ∧ 60 < k1) ∨ k1 ≤ 9 ∨ (9 < k1 ∧ 48 < k1 ∧ k1 ≤ 60) by omega) with q | q | q | q
    · obtain ⟨q1, q2⟩ := q
      have q3 : (9 : Int) < (k1 : Int) := by omega
      have q4 : (k1 : Int) ≤ 48 := by omega
      (have HF : Hid (r = true) := hide (by rw [← HRD.out, decide_eq_true_iff]; omega); clear HRD; go_enter Tryz.func4, Tryz.ntmps4; go_wp2_with fail; go_ret; exact ⟨ret_bool HF.out, HW.out⟩)
    · obtain ⟨q1, q2, q2'⟩ := q
      have q3 : (9 : Int) < (k1 : Int) := by omega
      have q4 : ¬ (k1 : Int) ≤ 48 := by omega
      have q5 : (60 : Int) < (k1 : Int) := by omega
      (have HF : Hid (r = true) := hide (by rw [← HRD.out, decide_eq_true_iff]; omega); clear HRD; go_enter Tryz.func4, Tryz.ntmps4; go_wp2_with fail; go_ret; exact ⟨ret_bool HF.out, HW.out⟩)
    all_goals
      first | (have q3 : ¬ (9 : Int) < (k1 : Int) := (by omega)) | (have q3 : (9 : Int) < (k1 : Int) := (by omega); have q4 : ¬ (k1 : Int) ≤ 48 := (by omega))
      have q5 : ¬ (60 : Int) < (k1 : Int) := by omega
      have hP60 : k1 ≤ 60 := by omega
      by_cases hh : 30 < k2
      · have u3 : (30 : Int) < (k2 : Int) := by omega
        (have HF : Hid (r = true) := hide (by rw [← HRD.out, decide_eq_true_iff]; omega); clear HRD; go_enter Tryz.func4, Tryz.ntmps4; go_wp2_with fail; go_ret; exact ⟨ret_bool HF.out, HW.out⟩)
      have u3 : ¬ (30 : Int) < (k2 : Int) := by omega
      by_cases hw : 30 < k3
      · have t3 : (30 : Int) < (k3 : Int) := by omega
        (have HF : Hid (r = true) := hide (by rw [← HRD.out, decide_eq_true_iff]; omega); clear HRD; go_enter Tryz.func4, Tryz.ntmps4; go_wp2_with fail; go_ret; exact ⟨ret_bool HF.out, HW.out⟩)
      have t3 : ¬ (30 : Int) < (k3 : Int) := by omega
      have HF : Hid (r = decide (1500 < netLen n)) := hide (by
        rw [← HRD.out]
        congr 1
        apply propext
        constructor
        · rintro (h | h | h | h | h | h | h)
          all_goals first | omega | exact h
        · intro h; omega)
      have hh30 : k2 ≤ 30 := by omega
      have hw30 : k3 ≤ 30 := by omega
      clear HRD g q hh hw
      go_enter Tryz.func4, Tryz.ntmps4
      go_wp2_with fail
      clear r0 r1 r2 r3 rL g3 g5 q3 q5 u3 t3
      try clear g4
      try clear q4
      go_loopw [3, 4] (GrtR k0 (fun i => sumLen List.length (n.nodes.take i)) w #[.slice A0 k0 c0, .slice A1 k1 c1, .slice A2 k2 c2, .slice A3 k3 c3]) (fun _ iv _ => k0 - (intOf iv).toNat)
      case atStart => exact ⟨0, Nat.zero_le _, rfl, rfl, HK, HW⟩
      case round =>
        clear HK HW
        obtain ⟨i, hi, rfl, rfl, HK, HW⟩ := hrel
        have r0 := HK.out.cell 0
        have r1 := HK.out.cell 1
        have r2 := HK.out.cell 2
        have r3 := HK.out.cell 3
        have rL := HK.out.lt
        simp at r0 r1 r2 r3
        by_cases hlt : i < k0
        · have hin : i < n.nodes.length := by have := HK0.out; omega
          have hi1 : (i : Int) < (k0 : Int) := by omega
          obtain ⟨ad, ea, hb, qa⟩ : ∃ ad, A0 = some ad ∧ ad.block < wr.heap.size ∧ wr.cell? (ad.add i) = some (str n.nodes[i]) := by
            obtain ⟨ad, e, hb, hc⟩ := (HA.out.below HW.out).2 (by omega)
            exact ⟨ad, e, Nat.lt_of_lt_of_le hb HW.out.size, hc i _ (by simp [hin])⟩
          subst ea
          have hl : n.nodes[i].length ≤ 140737488355328 := HA4.out _ (List.getElem_mem hin)
          have hs := sumLen_le (B := 140737488355328) (f := List.length) HA4.out i (by omega)
          have hs2 : sumLen List.length (n.nodes.take i) ≤ 40 * 140737488355328 := Nat.le_trans hs (Nat.mul_le_mul (by omega) (Nat.le_refl _))
          have HSU := hide (sumLen_succ (f := List.length) hin)
          clear hs
          generalize n.nodes[i] = x at qa hl HSU
          go_wp2_with fail
          refine ⟨⟨i + 1, by omega, by go_num, congrArg (Value.int .i64) (by show _ = ((sumLen List.length (n.nodes.take (i + 1)) : Nat) : Int); have h := HSU.out; omega), HK, HW⟩, by simp [intOf]; omega⟩
        · obtain rfl : i = k0 := by omega
          have HT : Hid (sumLen List.length (n.nodes.take i) = sumLen List.length n.nodes) := hide (by rw [HK0.out, List.take_length])
          have hS : sumLen List.length n.nodes ≤ 40 * 140737488355328 := by
            have h := sumLen_le (B := 140737488355328) (f := List.length) HA4.out i (by have := HK0.out; omega)
            rw [HT.out] at h
            exact Nat.le_trans h (Nat.mul_le_mul (by omega) (Nat.le_refl _))
          go_wp2_with fail
          rw [HT.out]
          clear r0 r1 r2 r3 rL HT
          go_loopw [3, 5] (GrtR k1 (fun i => sumLen List.length n.nodes + sumLen pipeLen (n.pipes.take i)) w #[.slice A0 i c0, .slice A1 k1 c1, .slice A2 k2 c2, .slice A3 k3 c3]) (fun _ iv _ => k1 - (intOf iv).toNat)
          case atStart => exact ⟨0, Nat.zero_le _, rfl, rfl, HK, HW⟩
          case round =>
            clear HK HW
            obtain ⟨j, hj, rfl, rfl, HK, HW⟩ := hrel
            have r0 := HK.out.cell 0
            have r1 := HK.out.cell 1
            have r2 := HK.out.cell 2
            have r3 := HK.out.cell 3
            have rL := HK.out.lt
            simp at r0 r1 r2 r3
            by_cases hlt2 : j < k1
            · have hin : j < n.pipes.length := by have := HK1.out; omega
              have hj1 : (j : Int) < (k1 : Int) := by omega
              obtain ⟨ad, ea, hb, p0, p1, p2, p3, p4⟩ := pipes_at (HB.out.below HW.out) hin
              subst ea
              have hbw := Nat.lt_of_lt_of_le hb HW.out.size
              obtain ⟨l0, l3, l4⟩ := HB4.out _ (List.getElem_mem hin)
              unfold WideS at l0 l3 l4
              have hple : ∀ x ∈ n.pipes, pipeLen x ≤ 3 * 140737488355328 := by
                intro x hx
                obtain ⟨l0, l3, l4⟩ := HB4.out x hx
                unfold WideS at l0 l3 l4
                unfold pipeLen; omega
              have hs := sumLen_le (B := 3 * 140737488355328) (f := pipeLen) hple j (by omega)
              have hs2 : sumLen pipeLen (n.pipes.take j) ≤ 60 * (3 * 140737488355328) := Nat.le_trans hs (Nat.mul_le_mul (by omega) (Nat.le_refl _))
              have HSU : Hid (sumLen pipeLen (n.pipes.take (j + 1)) = sumLen pipeLen (n.pipes.take j) + (n.pipes[j].name.length + (n.pipes[j].low.length + n.pipes[j].high.length))) := hide (sumLen_succ (f := pipeLen) hin)
              clear hs hple p1 p2
              generalize n.pipes[j].name = x0 at p0 l0 HSU
              generalize n.pipes[j].low = x3 at p3 l3 HSU
              generalize n.pipes[j].high = x4 at p4 l4 HSU
              go_wp2_with fail
              go_quiet (fail)
              have hbB := ext_drewN wr nq
              try clear r0 r1 r2 r3 rL
              have HK_ := hide (HK.out.below hbB HK.out.lt)
              have HW_ := hide (ext HW.out hbB)
              clear HK HW
              have HK := HK_
              have HW := HW_
              clear HK_ HW_
              clear hbB
              generalize wr.drewN nq = WN at HK HW ⊢
              clear nq
              have r0 := HK.out.cell 0
              have r1 := HK.out.cell 1
              have r2 := HK.out.cell 2
              have r3 := HK.out.cell 3
              have rL := HK.out.lt
              simp at r0 r1 r2 r3
              go_wp2_with fail
              refine ⟨⟨j + 1, by omega, by go_num, congrArg (Value.int .i64) (by show _ = ((sumLen List.length n.nodes + sumLen pipeLen (n.pipes.take (j + 1)) : Nat) : Int); have h := HSU.out; omega), HK, HW⟩, by simp [intOf]; omega⟩
            · obtain rfl : j = k1 := by omega
              have HT : Hid (sumLen pipeLen (n.pipes.take j) = sumLen pipeLen n.pipes) := hide (by rw [HK1.out, List.take_length])
              have hS2 : sumLen pipeLen n.pipes ≤ 60 * (3 * 140737488355328) := by
                have hple : ∀ x ∈ n.pipes, pipeLen x ≤ 3 * 140737488355328 := by
                  intro x hx
                  obtain ⟨l0, l3, l4⟩ := HB4.out x hx
                  unfold WideS at l0 l3 l4
                  unfold pipeLen; omega
                have h := sumLen_le (B := 3 * 140737488355328) (f := pipeLen) hple j (by have := HK1.out; omega)
                rw [HT.out] at h
                exact Nat.le_trans h (Nat.mul_le_mul (by omega) (Nat.le_refl _))
              go_wp2_with fail
              rw [HT.out]
              clear r0 r1 r2 r3 rL HT
              go_loopw [3, 6] (GrtR k2 (fun t => sumLen List.length n.nodes + sumLen pipeLen n.pipes + sumLen levelLen (n.heads.take t)) w #[.slice A0 i c0, .slice A1 j c1, .slice A2 k2 c2, .slice A3 k3 c3]) (fun _ iv _ => k2 - (intOf iv).toNat)
              case atStart => exact ⟨0, Nat.zero_le _, rfl, rfl, HK, HW⟩
              case round =>
                clear HK HW
                obtain ⟨t, ht, rfl, rfl, HK, HW⟩ := hrel
                have r0 := HK.out.cell 0
                have r1 := HK.out.cell 1
                have r2 := HK.out.cell 2
                have r3 := HK.out.cell 3
                have rL := HK.out.lt
                simp at r0 r1 r2 r3
                by_cases hlt3 : t < k2
                · have hin : t < n.heads.length := by have := HK2.out; omega
                  have ht1 : (t : Int) < (k2 : Int) := by omega
                  obtain ⟨ad, ea, hb, p0, p1⟩ := levels_at (HD.out.below HW.out) hin
                  subst ea
                  have hbw := Nat.lt_of_lt_of_le hb HW.out.size
                  have l0 : n.heads[t].value.length ≤ 140737488355328 := HD4.out _ (List.getElem_mem hin)
                  have hs := sumLen_le (B := 140737488355328) (f := levelLen) HD4.out t (by omega)
                  have hs2 : sumLen levelLen (n.heads.take t) ≤ 30 * 140737488355328 := Nat.le_trans hs (Nat.mul_le_mul (by omega) (Nat.le_refl _))
                  have HSU : Hid (sumLen levelLen (n.heads.take (t + 1)) = sumLen levelLen (n.heads.take t) + n.heads[t].value.length) := hide (sumLen_succ (f := levelLen) hin)
                  clear hs p0
                  generalize n.heads[t].value = x0 at p1 l0 HSU
                  go_wp2_with fail
                  refine ⟨⟨t + 1, by omega, by go_num, congrArg (Value.int .i64) (by show _ = ((sumLen List.length n.nodes + sumLen pipeLen n.pipes + sumLen levelLen (n.heads.take (t + 1)) : Nat) : Int); have h := HSU.out; omega), HK, HW⟩, by simp [intOf]; omega⟩
                · obtain rfl : t = k2 := by omega
                  have HT : Hid (sumLen levelLen (n.heads.take t) = sumLen levelLen n.heads) := hide (by rw [HK2.out, List.take_length])
                  have hS3 : sumLen levelLen n.heads ≤ 30 * 140737488355328 := by
                    have h := sumLen_le (B := 140737488355328) (f := levelLen) HD4.out t (by have := HK2.out; omega)
                    rw [HT.out] at h
                    exact Nat.le_trans h (Nat.mul_le_mul (by omega) (Nat.le_refl _))
                  go_wp2_with fail
                  rw [HT.out]
                  clear r0 r1 r2 r3 rL HT
                  go_loopw [3, 7] (GrtR k3 (fun u => sumLen List.length n.nodes + sumLen pipeLen n.pipes + sumLen levelLen n.heads + sumLen levelLen (n.wells.take u)) w #[.slice A0 i c0, .slice A1 j c1, .slice A2 t c2, .slice A3 k3 c3]) (fun _ iv _ => k3 - (intOf iv).toNat)
                  case atStart => exact ⟨0, Nat.zero_le _, rfl, rfl, HK, HW⟩
                  case round =>
                    clear HK HW
                    obtain ⟨u, hu, rfl, rfl, HK, HW⟩ := hrel
                    have r0 := HK.out.cell 0
                    have r1 := HK.out.cell 1
                    have r2 := HK.out.cell 2
                    have r3 := HK.out.cell 3
                    have rL := HK.out.lt
                    simp at r0 r1 r2 r3
                    by_cases hlt4 : u < k3
                    · have hin : u < n.wells.length := by have := HK3.out; omega
                      have hu1 : (u : Int) < (k3 : Int) := by omega
                      obtain ⟨ad, ea, hb, p0, p1⟩ := levels_at (HE.out.below HW.out) hin
                      subst ea
                      have hbw := Nat.lt_of_lt_of_le hb HW.out.size
                      have l0 : n.wells[u].value.length ≤ 140737488355328 := HE4.out _ (List.getElem_mem hin)
                      have hs := sumLen_le (B := 140737488355328) (f := levelLen) HE4.out u (by omega)
                      have hs2 : sumLen levelLen (n.wells.take u) ≤ 30 * 140737488355328 := Nat.le_trans hs (Nat.mul_le_mul (by omega) (Nat.le_refl _))
                      have HSU : Hid (sumLen levelLen (n.wells.take (u + 1)) = sumLen levelLen (n.wells.take u) + n.wells[u].value.length) := hide (sumLen_succ (f := levelLen) hin)
                      clear hs p0
                      generalize n.wells[u].value = x0 at p1 l0 HSU
                      go_wp2_with fail
                      refine ⟨⟨u + 1, by omega, by go_num, congrArg (Value.int .i64) (by show _ = ((sumLen List.length n.nodes + sumLen pipeLen n.pipes + sumLen levelLen n.heads + sumLen levelLen (n.wells.take (u + 1)) : Nat) : Int); have h := HSU.out; omega), HK, HW⟩, by simp [intOf]; omega⟩
                    · obtain rfl : u = k3 := by omega
                      have HT : Hid (sumLen levelLen (n.wells.take u) = sumLen levelLen n.wells) := hide (by rw [HK3.out, List.take_length])
                      go_wp2_with fail
                      go_ret
                      exact ⟨ret_bool (HF.out.trans (decide_eq_decide.2 (by have h := HT.out; unfold netLen; omega))), HW.out⟩
end Go.Proofs.YtmeagiodcnfmgaaGreat
namespace Go.Proofs.YtmeagiodcnfmgaaGreat
open Go.RowKit Go.Deep
attribute [local go_sem ↓] Go.wp_at_zero Go.wp_at_succ
theorem NetWide.below {w w' : World} {v : Value} {n : Net} (h : NetWide w v n) (hb : Below w.heap.size w w') : NetWide w' v n := by
  obtain ⟨A0, c0, A1, c1, A2, c2, A3, c3, rfl, ⟨a1, a2, a3, a4⟩, ⟨b1, b2, b3, b4⟩, ⟨d1, d2, d3, d4⟩, ⟨e1, e2, e3, e4⟩⟩ := h
  exact ⟨A0, c0, A1, c1, A2, c2, A3, c3, rfl, ⟨a1, a2, (a3.below hb).more hb.size, a4⟩, ⟨b1, b2, (b3.below hb).more hb.size, b4⟩, ⟨d1, d2, (d3.below hb).more hb.size, d4⟩, ⟨e1, e2, (e3.below hb).more hb.size, e4⟩⟩
/-- a net that is not great is small -/
theorem NetWide.small {w : World} {v : Value} {n : Net} (h : NetWide w v n) (hg : isGreat n = false) : NetIs w v n := by
  unfold isGreat at hg
  rw [decide_eq_false_iff_not] at hg
  obtain ⟨A0, c0, A1, c1, A2, c2, A3, c3, rfl, ⟨a1, a2, a3, a4⟩, ⟨b1, b2, b3, b4⟩, ⟨d1, d2, d3, d4⟩, ⟨e1, e2, e3, e4⟩⟩ := h
  have hl : netLen n ≤ 1500 := by omega
  unfold netLen at hl
  refine ⟨A0, _, c0, A1, _, c1, A2, _, c2, A3, _, c3, rfl, ⟨A0, c0, rfl, a1, a2, by omega, a3, fun x hx => ?_⟩, ⟨A1, c1, rfl, b1, b2, by omega, b3, fun x hx => ?_⟩, ⟨A2, c2, rfl, d1, d2, by omega, d3, fun x hx => ?_⟩, ⟨A3, c3, rfl, e1, e2, by omega, e3, fun x hx => ?_⟩⟩
  · have := sumLen_mem (f := List.length) hx
    unfold SmallS; omega
  · have : x.name.length + (x.low.length + x.high.length) ≤ sumLen pipeLen n.pipes := sumLen_mem (f := pipeLen) hx
    unfold SmallS; omega
  · have : x.value.length ≤ sumLen levelLen n.heads := sumLen_mem (f := levelLen) hx
    unfold SmallS; omega
  · have : x.value.length ≤ sumLen levelLen n.wells := sumLen_mem (f := levelLen) hx
    unfold SmallS; omega
set_option maxRecDepth 100000 in
set_option maxHeartbeats 16000000 in
theorem law_checks (v : Value) (n : Net) (w : World) (hn : NetWide w v n) : Calls Tryz.prog 3 #[v] w (RetB w (.bool true)) := by
  have hgr := fun w' (h : Below w.heap.size w w') => law_great v n w' (hn.below h)
  have HN := hide hn
  cases hg : isGreat n with
  | true =>
    rw [hg] at hgr
    obtain ⟨A0, c0, A1, c1, A2, c2, A3, c3, rfl, _⟩ := hn
    have HGR := hide hgr
    clear hgr hg
    have HW := hide (ext_alloc w (.cells #[.slice A0 n.nodes.length c0, .slice A1 n.pipes.length c1, .slice A2 n.heads.length c2, .slice A3 n.wells.length c3] 26))
    have HK := hide (Blk.new w 26 #[.slice A0 n.nodes.length c0, .slice A1 n.pipes.length c1, .slice A2 n.heads.length c2, .slice A3 n.wells.length c3])
    go_enter Tryz.func3, Tryz.ntmps3
    go_wp2_with fail
    generalize w.alloc (.cells #[.slice A0 n.nodes.length c0, .slice A1 n.pipes.length c1, .slice A2 n.heads.length c2, .slice A3 n.wells.length c3] 26) = WP at HK HW ⊢
    have r0 := HK.out.cell 0
    have r1 := HK.out.cell 1
    have r2 := HK.out.cell 2
    have r3 := HK.out.cell 3
    have rL := HK.out.lt
    simp at r0 r1 r2 r3
    have hc1 := fun t : Grow WP => HGR.out _ (ext HW.out t.below)
    have r0g := grown_cell rL r0
    have r1g := grown_cell rL r1
    have r2g := grown_cell rL r2
    have r3g := grown_cell rL r3
    refine wp_region_grown (by kernel_rfl) (by kernel_rfl) ?_
    repeat (quiet_step (first | (go_at_call 4; exact call_grown (hc1 _))))
    refine wpQuiet_nil ?_
    rintro w9 ⟨t9, rfl⟩
    clear r0g r1g r2g r3g
    have hbB := grown_below WP t9
    try clear r0 r1 r2 r3 rL
    have HK_ := hide (HK.out.below hbB HK.out.lt)
    have HW_ := hide (ext HW.out hbB)
    clear HK HW
    have HK := HK_
    have HW := HW_
    clear HK_ HW_
    generalize grown WP t9 = WN at hbB HK HW ⊢
    clear t9
    have r0 := HK.out.cell 0
    have r1 := HK.out.cell 1
    have r2 := HK.out.cell 2
    have r3 := HK.out.cell 3
    have rL := HK.out.lt
    simp at r0 r1 r2 r3
    clear hc1
    go_wp2_with fail
    go_ret
    exact ⟨rfl, HW.out⟩
  | false =>
    rw [hg] at hgr
    have hni := hn.small hg
    have hck := fun w' (h : Below w.heap.size w w') => water_check v n w' (hni.below h)
    have hrk := fun w' (h : Below w.heap.size w w') => ref_check v n w' (hni.below h)
    generalize n.err = ev at hck hrk
    obtain ⟨A0, c0, A1, c1, A2, c2, A3, c3, rfl, _⟩ := hn
    have HGR := hide hgr
    have HCK := hide hck
    have HRK := hide hrk
    clear hgr hck hrk hg hni
    have HW := hide (ext_alloc w (.cells #[.slice A0 n.nodes.length c0, .slice A1 n.pipes.length c1, .slice A2 n.heads.length c2, .slice A3 n.wells.length c3] 26))
    have HK := hide (Blk.new w 26 #[.slice A0 n.nodes.length c0, .slice A1 n.pipes.length c1, .slice A2 n.heads.length c2, .slice A3 n.wells.length c3])
    have hev : (ev == ev) = true := by simp
    go_enter Tryz.func3, Tryz.ntmps3
    go_wp2_with fail
    generalize w.alloc (.cells #[.slice A0 n.nodes.length c0, .slice A1 n.pipes.length c1, .slice A2 n.heads.length c2, .slice A3 n.wells.length c3] 26) = WP at HK HW ⊢
    have r0 := HK.out.cell 0
    have r1 := HK.out.cell 1
    have r2 := HK.out.cell 2
    have r3 := HK.out.cell 3
    have rL := HK.out.lt
    simp at r0 r1 r2 r3
    have hc1 := fun t : Grow WP => HGR.out _ (ext HW.out t.below)
    have hc2 := fun t : Grow WP => HCK.out _ (ext HW.out t.below)
    have hc3 := fun t : Grow WP => HRK.out _ (ext HW.out t.below)
    have hc4 := fun t : Grow WP => law_lives (grown WP t)
    have r0g := grown_cell rL r0
    have r1g := grown_cell rL r1
    have r2g := grown_cell rL r2
    have r3g := grown_cell rL r3
    refine wp_region_grown (by kernel_rfl) (by kernel_rfl) ?_
    repeat (quiet_step (first | (go_at_call 4; exact call_grown (hc1 _)) | (go_at_call 5; exact call_grown (hc2 _)) | (go_at_call 6; exact call_grown (hc3 _)) | (go_at_call 7; exact call_grown (hc4 _))))
    refine wpQuiet_nil ?_
    rintro w9 ⟨t9, rfl⟩
    clear r0g r1g r2g r3g
    have hbB := grown_below WP t9
    try clear r0 r1 r2 r3 rL
    have HK_ := hide (HK.out.below hbB HK.out.lt)
    have HW_ := hide (ext HW.out hbB)
    clear HK HW
    have HK := HK_
    have HW := HW_
    clear HK_ HW_
    generalize grown WP t9 = WN at hbB HK HW ⊢
    clear t9
    have r0 := HK.out.cell 0
    have r1 := HK.out.cell 1
    have r2 := HK.out.cell 2
    have r3 := HK.out.cell 3
    have rL := HK.out.lt
    simp at r0 r1 r2 r3
    clear hc1 hc2 hc3 hc4
    go_wp2_with fail
    go_ret
    exact ⟨rfl, HW.out⟩
end Go.Proofs.YtmeagiodcnfmgaaGreat
