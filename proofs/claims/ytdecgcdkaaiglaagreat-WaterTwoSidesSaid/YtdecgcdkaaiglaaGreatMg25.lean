/- The chapter's example: lives. · The walk of Great: nets that are more than statements look at. · A net of whatever size in memory. · What is asked of a net, in memory; the walks of long, Long, wide. · The walk of wide: what is asked is more than statements look at. · Plain: sums of a net's flows are not too long. · The walks of slices.Equal at texts, Flows, Balanced. · Plain: what the law of balance asks of heads and flows. · The walk of ends: the error of two nodes of a net. -/
import Derived.Below
import Derived.BigQuiet
import Derived.BigRegion
import Derived.Deep.AppendLies
import Derived.Deep.CutBlock
import Derived.Deep.DeepCutAuto
import Derived.Deep.DeepMust
import Derived.Deep.DrawnRows
import Derived.Deep.Draws
import Derived.Deep.LoopGhost
import Derived.Deep.MidRow
import Derived.Deep.OwnRows
import Derived.Deep.Quiet
import Derived.Deep.QuietTactic
import Derived.Deep.RegionHeld3
import Derived.Deep.RegionLawGrows
import Derived.Deep.RegionWith
import Derived.IntWalk
import Derived.Laws.BitsAllLaws
import Derived.Laws.MathBits
import Derived.Laws.OwnMore
import Derived.Laws.Rows
import Derived.Lib.BitFns
import Derived.Lib.Bytealg
import Derived.Lib.Index
import Derived.Lib.Slices
import Derived.Lib.Small
import Derived.Lib.Strings
import Derived.Lib.Walk
import Derived.LoopN
import Derived.Maps.AppendAt
import Derived.OwnWalk
import Derived.RegionTactic
import Derived.Scope
import Derived.StillTail
import Derived.StillTailTactics
import Derived.WalkKit
import Derived.WalkLawsBesides
import Derived.WalkMore
import Derived.WalkSpells
import Init.Data.List.Lemmas
import Derived.Test.YtdecgcdkaaiglaaGreatMg24
import Derived.Test.YtdecgcdkaaiglaaGreatMg19
import Derived.Test.YtdecgcdkaaiglaaGreatMg01
set_option linter.unusedVariables false
set_option linter.unusedSimpArgs false
namespace Go.Proofs.YtdecgcdkaaiglaaGreat
open Go.RowKit Go.Deep
attribute [local go_sem ↓] Go.wp_at_zero Go.wp_at_succ
def exNet : Net := ⟨[[112, 105, 116], [109, 105, 100], [114, 105, 118, 101, 114]], [⟨[97], 0, 1, [49], [50]⟩, ⟨[98], 1, 2, [49], [49]⟩], [⟨0, [48]⟩, ⟨2, [57]⟩], []⟩
theorem frac_nat (k : Nat) : fracText (k : Rat) = dec k := by
  unfold fracText
  simp
  exact if_neg (by omega)
theorem dec1 : dec 1 = [49] := by simp [dec, digs]; rfl
theorem dec2 : dec 2 = [50] := by simp [dec, digs]; rfl
theorem dec3 : dec 3 = [51] := by simp [dec, digs]; rfl
theorem dec9 : dec 9 = [57] := by simp [dec, digs]; rfl
theorem short_nat {k : Nat} (h : k < 10) : Short 12 (k : Rat) := by
  refine Dz.short (e := 1) ⟨?_, ?_⟩ (by omega)
  · simp; omega
  · simp
theorem num_of {l : List UInt8} {q : Rat} (h : fracText q = l) (hs : Short 12 q) : readFrac l = some q ∧ numErr l = 0 ∧ numOf l = q := by
  have h1 : readFrac l = some q := by rw [← h]; exact readFrac_text (Dz.short (Short.sz hs) (by omega))
  refine ⟨h1, ?_, ?_⟩
  · unfold numErr; rw [h1]; simp only; rw [if_pos hs]
  · unfold numOf; rw [h1]; rfl
theorem num0 : numErr [48] = 0 ∧ numOf [48] = 0 := (num_of (q := ((0 : Nat) : Rat)) (by rw [frac_nat]; exact dec_zero) (short_nat (by omega))).2
theorem num1 : numErr [49] = 0 ∧ numOf [49] = 1 := (num_of (q := ((1 : Nat) : Rat)) (by rw [frac_nat]; exact dec1) (short_nat (by omega))).2
theorem num2 : numErr [50] = 0 ∧ numOf [50] = 2 := (num_of (q := ((2 : Nat) : Rat)) (by rw [frac_nat]; exact dec2) (short_nat (by omega))).2
theorem num9 : numErr [57] = 0 ∧ numOf [57] = 9 := (num_of (q := ((9 : Nat) : Rat)) (by rw [frac_nat]; exact dec9) (short_nat (by omega))).2
theorem ex_p5 : exNet.P5 := by
  have h1 : exNet.P1 := by unfold Net.P1; decide
  have h2 : exNet.P2 := ⟨h1, by decide⟩
  have h3 : exNet.P3 := ⟨h2, by decide, by
    apply firstErr_all.2
    intro k hk
    have hk : k < 2 := hk
    unfold Net.pipeErr
    rcases (show k = 0 ∨ k = 1 by omega) with rfl | rfl
    · simp [exNet, num1.1, num1.2, num2.1, num2.2, isName, isLow, isNameSign, isDig]; grind
    · simp [exNet, num1.1, num1.2, isName, isLow, isNameSign, isDig]; grind⟩
  have h4 : exNet.P4 := ⟨h3, by
    apply firstErr_all.2
    intro k hk
    have hk : k < 2 := hk
    unfold Net.levelErr
    rcases (show k = 0 ∨ k = 1 by omega) with rfl | rfl
    · simp [exNet, num0.1]
    · simp [exNet, num9.1]⟩
  exact ⟨h4, rfl⟩
theorem ex_err : exNet.err = 0 := by
  refine (Net.err_end ex_p5).2 fun k hk => ?_
  have hk : k < 3 := hk
  have h0 : Joined exNet.pipes.length exNet.pf exNet.pt (Net.on exNet.heads) 0 := .base ⟨⟨0, [48]⟩, by simp [exNet], rfl⟩
  have h2 : Joined exNet.pipes.length exNet.pf exNet.pt (Net.on exNet.heads) 2 := .base ⟨⟨2, [57]⟩, by simp [exNet], rfl⟩
  have h1 : Joined exNet.pipes.length exNet.pf exNet.pt (Net.on exNet.heads) 1 := .right (i := 0) (by decide) h0
  rcases (show k = 0 ∨ k = 1 ∨ k = 2 by omega) with rfl | rfl | rfl
  · exact h0
  · exact h1
  · exact h2
theorem ex_cond : condErr exNet [[50], [49]] = 0 := by
  unfold condErr
  rw [if_neg (by decide)]
  apply firstErr_all.2
  intro k hk
  have hk : k < 2 := hk
  unfold aboveErr
  rcases (show k = 0 ∨ k = 1 by omega) with rfl | rfl
  · simp [num2.1, num2.2]; grind
  · simp [num1.1, num1.2]; grind
theorem ex_heads {h : Nat → Rat} (hh : NetHeads exNet [[50], [49]] h) : fracText (h 0) = [48] ∧ fracText (h 1) = [51] ∧ fracText (h 2) = [57] := by
  have e0 := hh 0 (by decide)
  have e1 := hh 1 (by decide)
  have e2 := hh 2 (by decide)
  have f0 : Net.at_ exNet.heads 0 = some 0 := by simp [Net.at_, exNet, num0.2]
  have f1 : Net.at_ exNet.heads 1 = none := by simp [Net.at_, exNet]
  have f2 : Net.at_ exNet.heads 2 = some 9 := by simp [Net.at_, exNet, num9.2]
  rw [f0] at e0
  rw [f1] at e1
  rw [f2] at e2
  simp only at e0 e1 e2
  have ha : allOf exNet.nodes.length 1 = true := rfl
  rw [if_pos ha] at e1
  have hw : Net.at_ exNet.wells 1 = none := rfl
  rw [hw] at e1
  have c0 : condOf [[50], [49]] 0 = 2 := num2.2
  have c1 : condOf [[50], [49]] 1 = 1 := num1.2
  have hf : flowTo exNet.pipes.length exNet.pf exNet.pt (condOf [[50], [49]]) h 1 = 2 * (h 1 - h 0) + 1 * (h 1 - h 2) := by
    show flowTo 2 exNet.pf exNet.pt (condOf [[50], [49]]) h 1 = _
    rw [flowTo_succ, flowTo_succ, flowTo_zero]
    have p0 : exNet.pf 0 = 0 := rfl
    have p1 : exNet.pf 1 = 1 := rfl
    have q0 : exNet.pt 0 = 1 := rfl
    have q1 : exNet.pt 1 = 2 := rfl
    rw [p0, p1, q0, q1, c0, c1]
    simp
    grind
  rw [hf, e0, e2] at e1
  have h1 : h 1 = 3 := by simp at e1; grind
  refine ⟨?_, ?_, ?_⟩
  · rw [e0]; exact fracText_zero_iff.2 rfl
  · rw [h1]; exact (frac_nat 3).trans dec3
  · rw [e2]; exact (frac_nat 9).trans dec9
def SamR (la lb : List (List UInt8)) (w : World) (iv : Value) (wr : World) : Prop := ∃ i : Nat, i ≤ la.length ∧ iv = .int .i64 i ∧ Hid (la.take i = lb.take i) ∧ Hid (Below w.heap.size w wr)
set_option maxRecDepth 100000 in
set_option maxHeartbeats 4000000 in
theorem law_same (A B : Option Addr) (ca cb : Nat) (la lb : List (List UInt8)) (w : World) (hA : Reads w w.heap.size 1 A la.length (la.map str)) (hB : Reads w w.heap.size 1 B lb.length (lb.map str)) (h1 : la.length ≤ 1000) (h2 : lb.length ≤ 1000) :
    Calls Tryz.prog 16 #[.slice A la.length ca, .slice B lb.length cb] w (RetB w (.bool (decide (la = lb)))) := by
  have HA := hide hA
  have HB := hide hB
  have HW := hide (ext_refl w)
  obtain ⟨r, HR⟩ : ∃ r, Hid (decide (la = lb) = r) := ⟨_, hide rfl⟩
  rw [HR.out]
  clear hA hB
  by_cases hl : la.length = lb.length
  · have HL := hide hl
    have hI : ((la.length : Int) != (lb.length : Int)) = false := by rw [hl]; simp
    clear hl
    go_enter Tryz.func16, Tryz.ntmps16
    go_wp2_with fail
    go_loopw [5] (SamR la lb w) (fun iv _ => la.length - (intOf iv).toNat)
    case atStart => exact ⟨0, Nat.zero_le _, rfl, rfl, HW⟩
    case round =>
      clear HW
      obtain ⟨i, hi, rfl, HE, HW⟩ := hrel
      by_cases hlt : i < la.length
      · have hlb : i < lb.length := by have := HL.out; omega
        have hi1 : (i : Int) < (la.length : Int) := by omega
        have hi2 : (i : Int) < (lb.length : Int) := by omega
        obtain ⟨aa, ea, la1, qa⟩ : ∃ ad, A = some ad ∧ ad.block < wr.heap.size ∧ wr.cell? (ad.add i) = some (str la[i]) := by
          obtain ⟨ad, e, hb, hc⟩ := (HA.out.below HW.out).2 (by omega)
          exact ⟨ad, e, Nat.lt_of_lt_of_le hb HW.out.size, hc i _ (by simp [hlt])⟩
        obtain ⟨ab, eb, lb1, qb⟩ : ∃ ad, B = some ad ∧ ad.block < wr.heap.size ∧ wr.cell? (ad.add i) = some (str lb[i]) := by
          obtain ⟨ad, e, hb, hc⟩ := (HB.out.below HW.out).2 (by omega)
          exact ⟨ad, e, Nat.lt_of_lt_of_le hb HW.out.size, hc i _ (by simp [hlb])⟩
        subst ea
        subst eb
        by_cases he : la[i] = lb[i]
        · have HNX : Hid (la.take (i + 1) = lb.take (i + 1)) := hide (by rw [List.take_succ_eq_append_getElem hlt, List.take_succ_eq_append_getElem hlb, HE.out, he])
          rw [he] at qa
          have hs1 : (lb[i] == lb[i]) = true := by simp
          have hs2 : (lb[i] != lb[i]) = false := by simp
          clear he la1 lb1
          generalize lb[i] = x at qa qb hs1 hs2
          go_wp2_with fail
          go_quiet (fail)
          have hbB := ext_drewN wr nq
          have HW_ := hide (ext HW.out hbB)
          clear HW
          have HW := HW_
          clear HW_
          clear hbB
          generalize wr.drewN nq = WN at HW ⊢
          clear nq
          go_wp2_with fail
          go_round
          case rel => exact ⟨i + 1, by omega, by go_num, HNX, HW⟩
          case measure => simp [intOf]; omega
        · have HF : Hid (r = false) := hide (by
            rw [← HR.out, decide_eq_false_iff_not]
            intro e
            subst e
            exact he rfl)
          have hs1 : (la[i] == lb[i]) = false := by simpa using he
          have hs2 : (la[i] != lb[i]) = true := by simpa using he
          clear he la1 lb1
          generalize la[i] = x at qa hs1 hs2
          generalize lb[i] = y at qb hs1 hs2
          go_wp2_with fail
          go_quiet (fail)
          have hbB := ext_drewN wr nq
          have HW_ := hide (ext HW.out hbB)
          clear HW
          have HW := HW_
          clear HW_
          clear hbB
          generalize wr.drewN nq = WN at HW ⊢
          clear nq
          go_wp2_with fail
          go_ret
          exact ⟨ret_bool HF.out, HW.out⟩
      · obtain rfl : i = la.length := by omega
        have HF : Hid (r = true) := hide (by
          rw [← HR.out, decide_eq_true_iff]
          have h := HE.out
          rw [List.take_length, HL.out, List.take_length] at h
          exact h)
        go_wp2_with fail
        go_ret
        exact ⟨ret_bool HF.out, HW.out⟩
  · have HF : Hid (r = false) := hide (by
      rw [← HR.out, decide_eq_false_iff_not]
      intro e
      exact hl (by rw [e]))
    have hI : ((la.length : Int) != (lb.length : Int)) = true := by rw [bne_iff_ne]; omega
    clear hl
    go_enter Tryz.func16, Tryz.ntmps16
    go_wp2_with fail
    go_ret
    exact ⟨ret_bool HF.out, HW.out⟩
theorem reads_blk {w : World} {g size n : Nat} {t : TypeId} {cs : List Value} (h : Blk w g t cs.toArray) (hn : cs.length = n * size) : Reads w w.heap.size size (some ⟨g, 0, none⟩) n cs := by
  refine ⟨hn, fun _ => ⟨_, rfl, h.lt, fun j u hu => ?_⟩⟩
  have e : (⟨g, 0, none⟩ : Addr).add j = ⟨g, j, none⟩ := by
    unfold Addr.add
    by_cases hj : j = 0
    · subst hj; rfl
    · simp [hj]
  rw [e, h.cell j, List.getElem?_toArray]
  exact hu
def RetNet (n : Net) (w : World) (e : Ending) (w' : World) : Prop := ∃ v, e = .returned v ∧ NetIs w' v n ∧ Below w.heap.size w w'
set_option maxRecDepth 100000 in
set_option maxHeartbeats 4000000 in
theorem law_example (w : World) : Calls Tryz.prog 33 #[] w (RetNet exNet w) := by
  have h1 : Blk ((((w.alloc (.cells #[.slice (some ⟨w.heap.size + 1, 0, none⟩) 3 3, .slice (some ⟨w.heap.size + 1 + 1, 0, none⟩) 2 2, .slice (some ⟨w.heap.size + 1 + 1 + 1, 0, none⟩) 2 2, .slice none 0 0] 26)).alloc (.cells ([str [112, 105, 116], str [109, 105, 100], str [114, 105, 118, 101, 114]] : List Value).toArray 9)).alloc (.cells ([str [97], .int .i64 0, .int .i64 1, str [49], str [50], str [98], .int .i64 1, .int .i64 2, str [49], str [49]] : List Value).toArray 47)).alloc (.cells ([.int .i64 0, str [48], .int .i64 2, str [57]] : List Value).toArray 49)) w.heap.size 26 #[.slice (some ⟨w.heap.size + 1, 0, none⟩) 3 3, .slice (some ⟨w.heap.size + 1 + 1, 0, none⟩) 2 2, .slice (some ⟨w.heap.size + 1 + 1 + 1, 0, none⟩) 2 2, .slice none 0 0] := (((Blk.new w _ _).alloc _).alloc _).alloc _
  have h2 : Blk ((((w.alloc (.cells #[.slice (some ⟨w.heap.size + 1, 0, none⟩) 3 3, .slice (some ⟨w.heap.size + 1 + 1, 0, none⟩) 2 2, .slice (some ⟨w.heap.size + 1 + 1 + 1, 0, none⟩) 2 2, .slice none 0 0] 26)).alloc (.cells ([str [112, 105, 116], str [109, 105, 100], str [114, 105, 118, 101, 114]] : List Value).toArray 9)).alloc (.cells ([str [97], .int .i64 0, .int .i64 1, str [49], str [50], str [98], .int .i64 1, .int .i64 2, str [49], str [49]] : List Value).toArray 47)).alloc (.cells ([.int .i64 0, str [48], .int .i64 2, str [57]] : List Value).toArray 49)) (w.heap.size + 1) 9 ([str [112, 105, 116], str [109, 105, 100], str [114, 105, 118, 101, 114]] : List Value).toArray := by
    have h := ((Blk.new (w.alloc (.cells #[.slice (some ⟨w.heap.size + 1, 0, none⟩) 3 3, .slice (some ⟨w.heap.size + 1 + 1, 0, none⟩) 2 2, .slice (some ⟨w.heap.size + 1 + 1 + 1, 0, none⟩) 2 2, .slice none 0 0] 26)) 9 ([str [112, 105, 116], str [109, 105, 100], str [114, 105, 118, 101, 114]] : List Value).toArray).alloc (.cells ([str [97], .int .i64 0, .int .i64 1, str [49], str [50], str [98], .int .i64 1, .int .i64 2, str [49], str [49]] : List Value).toArray 47)).alloc (.cells ([.int .i64 0, str [48], .int .i64 2, str [57]] : List Value).toArray 49)
    simp only [World.size_alloc] at h
    exact h
  have h3 : Blk ((((w.alloc (.cells #[.slice (some ⟨w.heap.size + 1, 0, none⟩) 3 3, .slice (some ⟨w.heap.size + 1 + 1, 0, none⟩) 2 2, .slice (some ⟨w.heap.size + 1 + 1 + 1, 0, none⟩) 2 2, .slice none 0 0] 26)).alloc (.cells ([str [112, 105, 116], str [109, 105, 100], str [114, 105, 118, 101, 114]] : List Value).toArray 9)).alloc (.cells ([str [97], .int .i64 0, .int .i64 1, str [49], str [50], str [98], .int .i64 1, .int .i64 2, str [49], str [49]] : List Value).toArray 47)).alloc (.cells ([.int .i64 0, str [48], .int .i64 2, str [57]] : List Value).toArray 49)) (w.heap.size + 1 + 1) 47 ([str [97], .int .i64 0, .int .i64 1, str [49], str [50], str [98], .int .i64 1, .int .i64 2, str [49], str [49]] : List Value).toArray := by
    have h := (Blk.new ((w.alloc (.cells #[.slice (some ⟨w.heap.size + 1, 0, none⟩) 3 3, .slice (some ⟨w.heap.size + 1 + 1, 0, none⟩) 2 2, .slice (some ⟨w.heap.size + 1 + 1 + 1, 0, none⟩) 2 2, .slice none 0 0] 26)).alloc (.cells ([str [112, 105, 116], str [109, 105, 100], str [114, 105, 118, 101, 114]] : List Value).toArray 9)) 47 ([str [97], .int .i64 0, .int .i64 1, str [49], str [50], str [98], .int .i64 1, .int .i64 2, str [49], str [49]] : List Value).toArray).alloc (.cells ([.int .i64 0, str [48], .int .i64 2, str [57]] : List Value).toArray 49)
    simp only [World.size_alloc] at h
    exact h
  have h4 : Blk ((((w.alloc (.cells #[.slice (some ⟨w.heap.size + 1, 0, none⟩) 3 3, .slice (some ⟨w.heap.size + 1 + 1, 0, none⟩) 2 2, .slice (some ⟨w.heap.size + 1 + 1 + 1, 0, none⟩) 2 2, .slice none 0 0] 26)).alloc (.cells ([str [112, 105, 116], str [109, 105, 100], str [114, 105, 118, 101, 114]] : List Value).toArray 9)).alloc (.cells ([str [97], .int .i64 0, .int .i64 1, str [49], str [50], str [98], .int .i64 1, .int .i64 2, str [49], str [49]] : List Value).toArray 47)).alloc (.cells ([.int .i64 0, str [48], .int .i64 2, str [57]] : List Value).toArray 49)) (w.heap.size + 1 + 1 + 1) 49 ([.int .i64 0, str [48], .int .i64 2, str [57]] : List Value).toArray := by
    have h := Blk.new (((w.alloc (.cells #[.slice (some ⟨w.heap.size + 1, 0, none⟩) 3 3, .slice (some ⟨w.heap.size + 1 + 1, 0, none⟩) 2 2, .slice (some ⟨w.heap.size + 1 + 1 + 1, 0, none⟩) 2 2, .slice none 0 0] 26)).alloc (.cells ([str [112, 105, 116], str [109, 105, 100], str [114, 105, 118, 101, 114]] : List Value).toArray 9)).alloc (.cells ([str [97], .int .i64 0, .int .i64 1, str [49], str [50], str [98], .int .i64 1, .int .i64 2, str [49], str [49]] : List Value).toArray 47)) 49 ([.int .i64 0, str [48], .int .i64 2, str [57]] : List Value).toArray
    simp only [World.size_alloc] at h
    exact h
  have HW : Hid (Below w.heap.size w ((((w.alloc (.cells #[.slice (some ⟨w.heap.size + 1, 0, none⟩) 3 3, .slice (some ⟨w.heap.size + 1 + 1, 0, none⟩) 2 2, .slice (some ⟨w.heap.size + 1 + 1 + 1, 0, none⟩) 2 2, .slice none 0 0] 26)).alloc (.cells ([str [112, 105, 116], str [109, 105, 100], str [114, 105, 118, 101, 114]] : List Value).toArray 9)).alloc (.cells ([str [97], .int .i64 0, .int .i64 1, str [49], str [50], str [98], .int .i64 1, .int .i64 2, str [49], str [49]] : List Value).toArray 47)).alloc (.cells ([.int .i64 0, str [48], .int .i64 2, str [57]] : List Value).toArray 49))) := hide (ext (ext (ext (ext_alloc w _) (ext_alloc _ _)) (ext_alloc _ _)) (ext_alloc _ _))
  have r0 := h1.cell 0
  have r1 := h1.cell 1
  have r2 := h1.cell 2
  have r3 := h1.cell 3
  have H2 := hide (reads_blk (size := 1) (n := 3) h2 rfl)
  have H3 := hide (reads_blk (size := 5) (n := 2) h3 rfl)
  have H4 := hide (reads_blk (size := 2) (n := 2) h4 rfl)
  simp only [List.getElem?_toArray, List.getElem?_cons_zero, List.getElem?_cons_succ] at r0 r1 r2 r3
  clear h1 h2 h3 h4
  go_enter Tryz.func33, Tryz.ntmps33
  go_wp2_with fail
  generalize ((((w.alloc (.cells #[.slice (some ⟨w.heap.size + 1, 0, none⟩) 3 3, .slice (some ⟨w.heap.size + 1 + 1, 0, none⟩) 2 2, .slice (some ⟨w.heap.size + 1 + 1 + 1, 0, none⟩) 2 2, .slice none 0 0] 26)).alloc (.cells ([str [112, 105, 116], str [109, 105, 100], str [114, 105, 118, 101, 114]] : List Value).toArray 9)).alloc (.cells ([str [97], .int .i64 0, .int .i64 1, str [49], str [50], str [98], .int .i64 1, .int .i64 2, str [49], str [49]] : List Value).toArray 47)).alloc (.cells ([.int .i64 0, str [48], .int .i64 2, str [57]] : List Value).toArray 49)) = WE at HW H2 H3 H4 r0 r1 r2 r3 ⊢
  refine bodyPost_ret (v := .agg #[.slice (some ⟨w.heap.size + 1, 0, none⟩) 3 3, .slice (some ⟨w.heap.size + 1 + 1, 0, none⟩) 2 2, .slice (some ⟨w.heap.size + 1 + 1 + 1, 0, none⟩) 2 2, .slice none 0 0]) (by simp [results, Tryz.results33, go_sem, r0, r1, r2, r3]) rfl ?_
  refine ⟨_, rfl, ⟨_, _, _, _, _, _, _, _, _, _, _, _, rfl, ⟨_, _, rfl, by decide, by unfold maxLen; decide, by decide, H2.out, ?_⟩, ⟨_, _, rfl, by decide, by unfold maxLen; decide, by decide, H3.out, ?_⟩, ⟨_, _, rfl, by decide, by unfold maxLen; decide, by decide, H4.out, ?_⟩, ⟨_, _, rfl, by decide, by unfold maxLen; decide, by decide, Reads.none_, ?_⟩⟩, HW.out⟩
  · intro x hx; simp [exNet] at hx; rcases hx with rfl | rfl | rfl <;> (unfold SmallS; simp)
  · intro x hx; simp [exNet] at hx; rcases hx with rfl | rfl <;> (unfold SmallS; simp)
  · intro x hx; simp [exNet] at hx; rcases hx with rfl | rfl <;> (unfold SmallS; simp)
  · intro x hx; simp [exNet] at hx
theorem ex_ask : askErr exNet [[50], [49]] = 0 := by
  unfold askErr
  rw [if_neg (by rw [ex_err]; decide)]
  exact ex_cond
theorem nodes_of {w : World} {A : Option Addr} {n c : Nat} {l : List (List UInt8)} (h : Reads w w.heap.size 1 A n (l.map str)) (hn : n = l.length) (hc : n ≤ c) (hm : c ≤ 1000) (hs : ∀ x ∈ l, SmallS x) : NodesIs w (.slice A n c) l := by
  subst hn
  exact ⟨A, c, rfl, hc, by unfold maxLen; omega, by omega, h, hs⟩
set_option maxRecDepth 100000 in
set_option maxHeartbeats 4000000 in
theorem law_lives (w : World) : Calls Tryz.prog 11 #[] w (RetB w (.bool true)) := by
  go_enter Tryz.func11, Tryz.ntmps11
  go_wp2_with fail
  refine (law_example _).mono ?_
  rintro e w1 ⟨v, rfl, hnet, hb1⟩
  have HNET := hide hnet
  have HW := hide hb1
  clear hnet hb1
  have hx := ext_alloc w1 (.cells ([str [50], str [49]] : List Value).toArray 28)
  have hrd := reads_blk (size := 1) (n := 2) (Blk.new w1 28 ([str [50], str [49]] : List Value).toArray) rfl
  have hh := water_Heads v (.slice (some ⟨w1.heap.size, 0, none⟩) 2 2) exNet [[50], [49]] _ (HNET.out.below hx) (nodes_of (l := [[50], [49]]) hrd rfl (by omega) (by omega) (by intro x hx; simp at hx; rcases hx with rfl | rfl <;> (unfold SmallS; simp))) (fun _ => ⟨by decide, by decide⟩)
  have HW2 := hide (ext HW.out hx)
  clear hx hrd
  go_wp2_with fail
  refine hh.mono ?_
  rintro e w2 ⟨hb2, h | ⟨_, A, cap, h, rfl, hcap, hnh, _, hr⟩⟩
  · exact absurd ex_ask h.1
  · obtain ⟨f0, f1, f2⟩ := ex_heads hnh
    have e1 : (row exNet.nodes.length fun k => str (fracText (h k))) = ([[48], [51], [57]] : List (List UInt8)).map str := by
      show (row 3 fun k => str (fracText (h k))) = _
      unfold row
      simp [List.range_succ, f0, f1, f2]
    rw [e1] at hr
    have HR := hide hr
    have HW3 := hide (ext HW2.out hb2)
    clear hh hb2 hnh hr hcap f0 f1 f2 e1 HNET
    have hlen : exNet.nodes.length = 3 := rfl
    rw [hlen] at HR ⊢
    have hx := ext_alloc w2 (.cells ([str [48], str [51], str [57]] : List Value).toArray 28)
    have hrd := reads_blk (size := 1) (n := 3) (Blk.new w2 28 ([str [48], str [51], str [57]] : List Value).toArray) rfl
    have hs := law_same A (some ⟨w2.heap.size, 0, none⟩) cap 3 [[48], [51], [57]] [[48], [51], [57]] _ ((HR.out.below hx).more hx.size) hrd (by decide) (by decide)
    have HW4 := hide (ext HW3.out hx)
    rw [decide_eq_true rfl] at hs
    clear hx hrd hlen
    go_wp2_with fail
    refine hs.mono ?_
    rintro e w3 ⟨rfl, hb3⟩
    have HW5 := hide (ext HW4.out hb3)
    clear hb3 hs
    go_wp2_with fail
    go_ret
    exact ⟨rfl, HW5.out⟩
end Go.Proofs.YtdecgcdkaaiglaaGreat
namespace Go.Proofs.YtdecgcdkaaiglaaGreat
open Go.RowKit Go.Deep
attribute [local go_sem ↓] Go.wp_at_zero Go.wp_at_succ
/-- A text as great as any. -/
def WideS (l : List UInt8) : Prop := l.length ≤ 140737488355328
/-- A net in memory, of whatever size. -/
def NetWide (w : World) (v : Value) (n : Net) : Prop :=
  ∃ A0 c0 A1 c1 A2 c2 A3 c3, v = .agg #[.slice A0 n.nodes.length c0, .slice A1 n.pipes.length c1, .slice A2 n.heads.length c2, .slice A3 n.wells.length c3] ∧
    (n.nodes.length ≤ c0 ∧ c0 ≤ maxLen ∧ Reads w w.heap.size 1 A0 n.nodes.length (n.nodes.map str) ∧ ∀ x ∈ n.nodes, WideS x) ∧
    (n.pipes.length ≤ c1 ∧ c1 ≤ maxLen ∧ Reads w w.heap.size 5 A1 n.pipes.length (pipesCells n.pipes) ∧ ∀ x ∈ n.pipes, WideS x.name ∧ WideS x.low ∧ WideS x.high) ∧
    (n.heads.length ≤ c2 ∧ c2 ≤ maxLen ∧ Reads w w.heap.size 2 A2 n.heads.length (levelsCells n.heads) ∧ ∀ x ∈ n.heads, WideS x.value) ∧
    (n.wells.length ≤ c3 ∧ c3 ≤ maxLen ∧ Reads w w.heap.size 2 A3 n.wells.length (levelsCells n.wells) ∧ ∀ x ∈ n.wells, WideS x.value)
def sumLen {α : Type} (f : α → Nat) (l : List α) : Nat := (l.map f).sum
theorem sumLen_succ {α : Type} {f : α → Nat} {l : List α} {k : Nat} (hk : k < l.length) : sumLen f (l.take (k + 1)) = sumLen f (l.take k) + f l[k] := by
  unfold sumLen
  rw [List.take_succ_eq_append_getElem hk, List.map_append, List.sum_append]
  simp
theorem sumLen_le {α : Type} {f : α → Nat} {l : List α} {B : Nat} (h : ∀ x ∈ l, f x ≤ B) : ∀ k, k ≤ l.length → sumLen f (l.take k) ≤ k * B := by
  intro k
  induction k with
  | zero => intro _; simp [sumLen]
  | succ k ih =>
    intro hk
    rw [sumLen_succ (by omega), Nat.succ_mul]
    have := ih (by omega)
    have := h _ (List.getElem_mem (show k < l.length by omega))
    omega
theorem sumLen_mem {α : Type} {f : α → Nat} {l : List α} {x : α} (h : x ∈ l) : f x ≤ sumLen f l := by
  induction l with
  | nil => cases h
  | cons a l ih =>
    unfold sumLen at ih ⊢
    rw [List.map_cons, List.sum_cons]
    rcases List.mem_cons.1 h with rfl | h
    · omega
    · have := ih h; omega
def pipeLen (p : Pipe) : Nat := p.name.length + (p.low.length + p.high.length)
def levelLen (v : Level) : Nat := v.value.length
def netLen (n : Net) : Nat := sumLen List.length n.nodes + sumLen pipeLen n.pipes + sumLen levelLen n.heads + sumLen levelLen n.wells
/-- a net is more than statements look at -/
def isGreat (n : Net) : Bool :=
  decide ((6 < n.nodes.length ∧ n.nodes.length ≤ 24) ∨ 40 < n.nodes.length ∨ (9 < n.pipes.length ∧ n.pipes.length ≤ 48) ∨ 60 < n.pipes.length ∨ 30 < n.heads.length ∨ 30 < n.wells.length ∨ 1500 < netLen n)
def GrtR (N : Nat) (f : Nat → Nat) (w : World) (nb : Array Value) (sv iv : Value) (wr : World) : Prop :=
  ∃ i : Nat, i ≤ N ∧ iv = .int .i64 i ∧ sv = .int .i64 (f i) ∧ Hid (Blk wr w.heap.size 26 nb) ∧ Hid (Below w.heap.size w wr)
theorem pipes_at {w : World} {A : Option Addr} {n B : Nat} {l : List Pipe} (h4 : Reads w B 5 A n (pipesCells l)) {k : Nat} (hk : k < l.length) :
    ∃ ad, A = some ad ∧ ad.block < B ∧ w.cell? (ad.add (k * 5)) = some (str l[k].name) ∧ w.cell? ⟨(ad.add (k * 5)).block, (ad.add (k * 5)).off + 1, none⟩ = some (.int .i64 l[k].from_) ∧
      w.cell? ⟨(ad.add (k * 5)).block, (ad.add (k * 5)).off + 2, none⟩ = some (.int .i64 l[k].to_) ∧ w.cell? ⟨(ad.add (k * 5)).block, (ad.add (k * 5)).off + 3, none⟩ = some (str l[k].low) ∧
      w.cell? ⟨(ad.add (k * 5)).block, (ad.add (k * 5)).off + 4, none⟩ = some (str l[k].high) := by
  obtain ⟨g1, g2, g3, g4, g5⟩ := pipesCells_get hk
  have hn : 0 < n := by
    rcases Nat.eq_zero_or_pos n with h0 | h0
    · subst h0
      have := h4.1
      rw [pipesCells_length] at this
      omega
    · exact h0
  obtain ⟨ad, rfl, hb, hc⟩ := h4.2 hn
  rw [Nat.mul_comm] at g1 g2 g3 g4 g5
  exact ⟨ad, rfl, hb, hc _ _ g1, by rw [addr_field ad (k * 5) 0]; exact hc _ _ g2, by rw [addr_field ad (k * 5) 1]; exact hc _ _ g3, by rw [addr_field ad (k * 5) 2]; exact hc _ _ g4, by rw [addr_field ad (k * 5) 3]; exact hc _ _ g5⟩
theorem levels_at {w : World} {A : Option Addr} {n B : Nat} {l : List Level} (h4 : Reads w B 2 A n (levelsCells l)) {k : Nat} (hk : k < l.length) :
    ∃ ad, A = some ad ∧ ad.block < B ∧ w.cell? (ad.add (k * 2)) = some (.int .i64 l[k].node) ∧ w.cell? ⟨(ad.add (k * 2)).block, (ad.add (k * 2)).off + 1, none⟩ = some (str l[k].value) := by
  obtain ⟨g1, g2⟩ := levelsCells_get hk
  have hn : 0 < n := by
    rcases Nat.eq_zero_or_pos n with h0 | h0
    · subst h0
      have := h4.1
      rw [levelsCells_length] at this
      omega
    · exact h0
  obtain ⟨ad, rfl, hb, hc⟩ := h4.2 hn
  rw [Nat.mul_comm] at g1 g2
  exact ⟨ad, rfl, hb, hc _ _ g1, by rw [addr_field ad (k * 2) 0]; exact hc _ _ g2⟩
set_option maxRecDepth 100000 in
set_option maxHeartbeats 16000000 in
theorem law_great (v : Value) (n : Net) (w : World) (hn : NetWide w v n) : Calls Tryz.prog 8 #[v] w (RetB w (.bool (isGreat n))) := by
  obtain ⟨A0, c0, A1, c1, A2, c2, A3, c3, rfl, ⟨a1, a2, a3, a4⟩, ⟨b1, b2, b3, b4⟩, ⟨d1, d2, d3, d4⟩, ⟨e1, e2, e3, e4⟩⟩ := hn
  have HW := hide (ext_alloc w (.cells #[.slice A0 n.nodes.length c0, .slice A1 n.pipes.length c1, .slice A2 n.heads.length c2, .slice A3 n.wells.length c3] 26))
  have HK := hide (Blk.new w 26 #[.slice A0 n.nodes.length c0, .slice A1 n.pipes.length c1, .slice A2 n.heads.length c2, .slice A3 n.wells.length c3])
  obtain ⟨r, HR⟩ : ∃ r, Hid (isGreat n = r) := ⟨_, hide rfl⟩
  rw [HR.out]
  have HA := hide a3
  have HB := hide b3
  have HD := hide d3
  have HE := hide e3
  have HA4 := hide a4
  have HB4 := hide b4
  have HD4 := hide d4
  have HE4 := hide e4
  obtain ⟨k0, hk0⟩ : ∃ k, k = n.nodes.length := ⟨_, rfl⟩
  obtain ⟨k1, hk1⟩ : ∃ k, k = n.pipes.length := ⟨_, rfl⟩
  obtain ⟨k2, hk2⟩ : ∃ k, k = n.heads.length := ⟨_, rfl⟩
  obtain ⟨k3, hk3⟩ : ∃ k, k = n.wells.length := ⟨_, rfl⟩
  rw [← hk0, ← hk1, ← hk2, ← hk3] at HW HK ⊢
  rw [← hk0] at HA
  rw [← hk1] at HB
  rw [← hk2] at HD
  rw [← hk3] at HE
  have HK0 := hide hk0
  have HK1 := hide hk1
  have HK2 := hide hk2
  have HK3 := hide hk3
  have HRD : Hid (decide ((6 < k0 ∧ k0 ≤ 24) ∨ 40 < k0 ∨ (9 < k1 ∧ k1 ≤ 48) ∨ 60 < k1 ∨ 30 < k2 ∨ 30 < k3 ∨ 1500 < netLen n) = r) := hide (by rw [← HR.out, hk0, hk1, hk2, hk3]; rfl)
  clear a1 a2 a3 a4 b1 b2 b3 b4 d1 d2 d3 d4 e1 e2 e3 e4 hk0 hk1 hk2 hk3 HR
  have r0 := HK.out.cell 0
  have r1 := HK.out.cell 1
  have r2 := HK.out.cell 2
  have r3 := HK.out.cell 3
  have rL := HK.out.lt
  simp at r0 r1 r2 r3
  rcases (show (6 < k0 ∧ k0 ≤ 24) ∨ (6 < k0 ∧ 24 < k0 ∧ 40 < k0) ∨ k0 ≤ 6 ∨ (6 < k0 ∧ 24 < k0 ∧ k0 ≤ 40) by omega) with g | g | g | g
  · obtain ⟨g1, g2⟩ := g
    have g3 : (6 : Int) < (k0 : Int) := by omega
    have g4 : (k0 : Int) ≤ 24 := by omega
    (have HF : Hid (r = true) := hide (by rw [← HRD.out, decide_eq_true_iff]; omega); clear HRD; go_enter Tryz.func8, Tryz.ntmps8; go_wp2_with fail; go_ret; exact ⟨ret_bool HF.out, HW.out⟩)
  · obtain ⟨g1, g2, g2'⟩ := g
    have g3 : (6 : Int) < (k0 : Int) := by omega
    have g4 : ¬ (k0 : Int) ≤ 24 := by omega
    have g5 : (40 : Int) < (k0 : Int) := by omega
    (have HF : Hid (r = true) := hide (by rw [← HRD.out, decide_eq_true_iff]; omega); clear HRD; go_enter Tryz.func8, Tryz.ntmps8; go_wp2_with fail; go_ret; exact ⟨ret_bool HF.out, HW.out⟩)
  all_goals
    first | (have g3 : ¬ (6 : Int) < (k0 : Int) := (by omega)) | (have g3 : (6 : Int) < (k0 : Int) := (by omega); have g4 : ¬ (k0 : Int) ≤ 24 := (by omega))
    have g5 : ¬ (40 : Int) < (k0 : Int) := by omega
    have hN40 : k0 ≤ 40 := by omega
    rcases (show (9 < k1 ∧ k1 ≤ 48) ∨ (9 < k1 ∧ 48 < k1 ∧ 60 < k1) ∨ k1 ≤ 9 ∨ (9 < k1 ∧ 48 < k1 ∧ k1 ≤ 60) by omega) with q | q | q | q
    · obtain ⟨q1, q2⟩ := q
      have q3 : (9 : Int) < (k1 : Int) := by omega
      have q4 : (k1 : Int) ≤ 48 := by omega
      (have HF : Hid (r = true) := hide (by rw [← HRD.out, decide_eq_true_iff]; omega); clear HRD; go_enter Tryz.func8, Tryz.ntmps8; go_wp2_with fail; go_ret; exact ⟨ret_bool HF.out, HW.out⟩)
    · obtain ⟨q1, q2, q2'⟩ := q
      have q3 : (9 : Int) < (k1 : Int) := by omega
      have q4 : ¬ (k1 : Int) ≤ 48 := by omega
      have q5 : (60 : Int) < (k1 : Int) := by omega
      (have HF : Hid (r = true) := hide (by rw [← HRD.out, decide_eq_true_iff]; omega); clear HRD; go_enter Tryz.func8, Tryz.ntmps8; go_wp2_with fail; go_ret; exact ⟨ret_bool HF.out, HW.out⟩)
    all_goals
      first | (have q3 : ¬ (9 : Int) < (k1 : Int) := (by omega)) | (have q3 : (9 : Int) < (k1 : Int) := (by omega); have q4 : ¬ (k1 : Int) ≤ 48 := (by omega))
      have q5 : ¬ (60 : Int) < (k1 : Int) := by omega
      have hP60 : k1 ≤ 60 := by omega
      by_cases hh : 30 < k2
      · have u3 : (30 : Int) < (k2 : Int) := by omega
        (have HF : Hid (r = true) := hide (by rw [← HRD.out, decide_eq_true_iff]; omega); clear HRD; go_enter Tryz.func8, Tryz.ntmps8; go_wp2_with fail; go_ret; exact ⟨ret_bool HF.out, HW.out⟩)
      have u3 : ¬ (30 : Int) < (k2 : Int) := by omega
      by_cases hw : 30 < k3
      · have t3 : (30 : Int) < (k3 : Int) := by omega
        (have HF : Hid (r = true) := hide (by rw [← HRD.out, decide_eq_true_iff]; omega); clear HRD; go_enter Tryz.func8, Tryz.ntmps8; go_wp2_with fail; go_ret; exact ⟨ret_bool HF.out, HW.out⟩)
      have t3 : ¬ (30 : Int) < (k3 : Int) := by omega
      have HF : Hid (r = decide (1500 < netLen n)) := hide (by
        rw [← HRD.out]
        congr 1
        apply propext
        constructor
        · rintro (h | h | h | h | h | h | h)
          all_goals first | omega | exact h
        · intro h; omega)
      have hh30 : k2 ≤ 30 := by omega
      have hw30 : k3 ≤ 30 := by omega
      clear HRD g q hh hw
      go_enter Tryz.func8, Tryz.ntmps8
      go_wp2_with fail
      clear r0 r1 r2 r3 rL g3 g5 q3 q5 u3 t3
      try clear g4
      try clear q4
      go_loopw [3, 4] (GrtR k0 (fun i => sumLen List.length (n.nodes.take i)) w #[.slice A0 k0 c0, .slice A1 k1 c1, .slice A2 k2 c2, .slice A3 k3 c3]) (fun _ iv _ => k0 - (intOf iv).toNat)
      case atStart => exact ⟨0, Nat.zero_le _, rfl, rfl, HK, HW⟩
      case round =>
        clear HK HW
        obtain ⟨i, hi, rfl, rfl, HK, HW⟩ := hrel
        have r0 := HK.out.cell 0
        have r1 := HK.out.cell 1
        have r2 := HK.out.cell 2
        have r3 := HK.out.cell 3
        have rL := HK.out.lt
        simp at r0 r1 r2 r3
        by_cases hlt : i < k0
        · have hin : i < n.nodes.length := by have := HK0.out; omega
          have hi1 : (i : Int) < (k0 : Int) := by omega
          obtain ⟨ad, ea, hb, qa⟩ : ∃ ad, A0 = some ad ∧ ad.block < wr.heap.size ∧ wr.cell? (ad.add i) = some (str n.nodes[i]) := by
            obtain ⟨ad, e, hb, hc⟩ := (HA.out.below HW.out).2 (by omega)
            exact ⟨ad, e, Nat.lt_of_lt_of_le hb HW.out.size, hc i _ (by simp [hin])⟩
          subst ea
          have hl : n.nodes[i].length ≤ 140737488355328 := HA4.out _ (List.getElem_mem hin)
          have hs := sumLen_le (B := 140737488355328) (f := List.length) HA4.out i (by omega)
          have hs2 : sumLen List.length (n.nodes.take i) ≤ 40 * 140737488355328 := Nat.le_trans hs (Nat.mul_le_mul (by omega) (Nat.le_refl _))
          have HSU := hide (sumLen_succ (f := List.length) hin)
          clear hs
          generalize n.nodes[i] = x at qa hl HSU
          go_wp2_with fail
          refine ⟨⟨i + 1, by omega, by go_num, congrArg (Value.int .i64) (by show _ = ((sumLen List.length (n.nodes.take (i + 1)) : Nat) : Int); have h := HSU.out; omega), HK, HW⟩, by simp [intOf]; omega⟩
        · obtain rfl : i = k0 := by omega
          have HT : Hid (sumLen List.length (n.nodes.take i) = sumLen List.length n.nodes) := hide (by rw [HK0.out, List.take_length])
          have hS : sumLen List.length n.nodes ≤ 40 * 140737488355328 := by
            have h := sumLen_le (B := 140737488355328) (f := List.length) HA4.out i (by have := HK0.out; omega)
            rw [HT.out] at h
            exact Nat.le_trans h (Nat.mul_le_mul (by omega) (Nat.le_refl _))
          go_wp2_with fail
          rw [HT.out]
          clear r0 r1 r2 r3 rL HT
          go_loopw [3, 5] (GrtR k1 (fun i => sumLen List.length n.nodes + sumLen pipeLen (n.pipes.take i)) w #[.slice A0 i c0, .slice A1 k1 c1, .slice A2 k2 c2, .slice A3 k3 c3]) (fun _ iv _ => k1 - (intOf iv).toNat)
          case atStart => exact ⟨0, Nat.zero_le _, rfl, rfl, HK, HW⟩
          case round =>
            clear HK HW
            obtain ⟨j, hj, rfl, rfl, HK, HW⟩ := hrel
            have r0 := HK.out.cell 0
            have r1 := HK.out.cell 1
            have r2 := HK.out.cell 2
            have r3 := HK.out.cell 3
            have rL := HK.out.lt
            simp at r0 r1 r2 r3
            by_cases hlt2 : j < k1
            · have hin : j < n.pipes.length := by have := HK1.out; omega
              have hj1 : (j : Int) < (k1 : Int) := by omega
              obtain ⟨ad, ea, hb, p0, p1, p2, p3, p4⟩ := pipes_at (HB.out.below HW.out) hin
              subst ea
              have hbw := Nat.lt_of_lt_of_le hb HW.out.size
              obtain ⟨l0, l3, l4⟩ := HB4.out _ (List.getElem_mem hin)
              unfold WideS at l0 l3 l4
              have hple : ∀ x ∈ n.pipes, pipeLen x ≤ 3 * 140737488355328 := by
                intro x hx
                obtain ⟨l0, l3, l4⟩ := HB4.out x hx
                unfold WideS at l0 l3 l4
                unfold pipeLen; omega
              have hs := sumLen_le (B := 3 * 140737488355328) (f := pipeLen) hple j (by omega)
              have hs2 : sumLen pipeLen (n.pipes.take j) ≤ 60 * (3 * 140737488355328) := Nat.le_trans hs (Nat.mul_le_mul (by omega) (Nat.le_refl _))
              have HSU : Hid (sumLen pipeLen (n.pipes.take (j + 1)) = sumLen pipeLen (n.pipes.take j) + (n.pipes[j].name.length + (n.pipes[j].low.length + n.pipes[j].high.length))) := hide (sumLen_succ (f := pipeLen) hin)
              clear hs hple p1 p2
              generalize n.pipes[j].name = x0 at p0 l0 HSU
              generalize n.pipes[j].low = x3 at p3 l3 HSU
              generalize n.pipes[j].high = x4 at p4 l4 HSU
              go_wp2_with fail
              go_quiet (fail)
              have hbB := ext_drewN wr nq
              try clear r0 r1 r2 r3 rL
              have HK_ := hide (HK.out.below hbB HK.out.lt)
              have HW_ := hide (ext HW.out hbB)
              clear HK HW
              have HK := HK_
              have HW := HW_
              clear HK_ HW_
              clear hbB
              generalize wr.drewN nq = WN at HK HW ⊢
              clear nq
              have r0 := HK.out.cell 0
              have r1 := HK.out.cell 1
              have r2 := HK.out.cell 2
              have r3 := HK.out.cell 3
              have rL := HK.out.lt
              simp at r0 r1 r2 r3
              go_wp2_with fail
              refine ⟨⟨j + 1, by omega, by go_num, congrArg (Value.int .i64) (by show _ = ((sumLen List.length n.nodes + sumLen pipeLen (n.pipes.take (j + 1)) : Nat) : Int); have h := HSU.out; omega), HK, HW⟩, by simp [intOf]; omega⟩
            · obtain rfl : j = k1 := by omega
              have HT : Hid (sumLen pipeLen (n.pipes.take j) = sumLen pipeLen n.pipes) := hide (by rw [HK1.out, List.take_length])
              have hS2 : sumLen pipeLen n.pipes ≤ 60 * (3 * 140737488355328) := by
                have hple : ∀ x ∈ n.pipes, pipeLen x ≤ 3 * 140737488355328 := by
                  intro x hx
                  obtain ⟨l0, l3, l4⟩ := HB4.out x hx
                  unfold WideS at l0 l3 l4
                  unfold pipeLen; omega
                have h := sumLen_le (B := 3 * 140737488355328) (f := pipeLen) hple j (by have := HK1.out; omega)
                rw [HT.out] at h
                exact Nat.le_trans h (Nat.mul_le_mul (by omega) (Nat.le_refl _))
              go_wp2_with fail
              rw [HT.out]
              clear r0 r1 r2 r3 rL HT
              go_loopw [3, 6] (GrtR k2 (fun t => sumLen List.length n.nodes + sumLen pipeLen n.pipes + sumLen levelLen (n.heads.take t)) w #[.slice A0 i c0, .slice A1 j c1, .slice A2 k2 c2, .slice A3 k3 c3]) (fun _ iv _ => k2 - (intOf iv).toNat)
              case atStart => exact ⟨0, Nat.zero_le _, rfl, rfl, HK, HW⟩
              case round =>
                clear HK HW
                obtain ⟨t, ht, rfl, rfl, HK, HW⟩ := hrel
                have r0 := HK.out.cell 0
                have r1 := HK.out.cell 1
                have r2 := HK.out.cell 2
                have r3 := HK.out.cell 3
                have rL := HK.out.lt
                simp at r0 r1 r2 r3
                by_cases hlt3 : t < k2
                · have hin : t < n.heads.length := by have := HK2.out; omega
                  have ht1 : (t : Int) < (k2 : Int) := by omega
                  obtain ⟨ad, ea, hb, p0, p1⟩ := levels_at (HD.out.below HW.out) hin
                  subst ea
                  have hbw := Nat.lt_of_lt_of_le hb HW.out.size
                  have l0 : n.heads[t].value.length ≤ 140737488355328 := HD4.out _ (List.getElem_mem hin)
                  have hs := sumLen_le (B := 140737488355328) (f := levelLen) HD4.out t (by omega)
                  have hs2 : sumLen levelLen (n.heads.take t) ≤ 30 * 140737488355328 := Nat.le_trans hs (Nat.mul_le_mul (by omega) (Nat.le_refl _))
                  have HSU : Hid (sumLen levelLen (n.heads.take (t + 1)) = sumLen levelLen (n.heads.take t) + n.heads[t].value.length) := hide (sumLen_succ (f := levelLen) hin)
                  clear hs p0
                  generalize n.heads[t].value = x0 at p1 l0 HSU
                  go_wp2_with fail
                  refine ⟨⟨t + 1, by omega, by go_num, congrArg (Value.int .i64) (by show _ = ((sumLen List.length n.nodes + sumLen pipeLen n.pipes + sumLen levelLen (n.heads.take (t + 1)) : Nat) : Int); have h := HSU.out; omega), HK, HW⟩, by simp [intOf]; omega⟩
                · obtain rfl : t = k2 := by omega
                  have HT : Hid (sumLen levelLen (n.heads.take t) = sumLen levelLen n.heads) := hide (by rw [HK2.out, List.take_length])
                  have hS3 : sumLen levelLen n.heads ≤ 30 * 140737488355328 := by
                    have h := sumLen_le (B := 140737488355328) (f := levelLen) HD4.out t (by have := HK2.out; omega)
                    rw [HT.out] at h
                    exact Nat.le_trans h (Nat.mul_le_mul (by omega) (Nat.le_refl _))
                  go_wp2_with fail
                  rw [HT.out]
                  clear r0 r1 r2 r3 rL HT
                  go_loopw [3, 7] (GrtR k3 (fun u => sumLen List.length n.nodes + sumLen pipeLen n.pipes + sumLen levelLen n.heads + sumLen levelLen (n.wells.take u)) w #[.slice A0 i c0, .slice A1 j c1, .slice A2 t c2, .slice A3 k3 c3]) (fun _ iv _ => k3 - (intOf iv).toNat)
                  case atStart => exact ⟨0, Nat.zero_le _, rfl, rfl, HK, HW⟩
                  case round =>
                    clear HK HW
                    obtain ⟨u, hu, rfl, rfl, HK, HW⟩ := hrel
                    have r0 := HK.out.cell 0
                    have r1 := HK.out.cell 1
                    have r2 := HK.out.cell 2
                    have r3 := HK.out.cell 3
                    have rL := HK.out.lt
                    simp at r0 r1 r2 r3
                    by_cases hlt4 : u < k3
                    · have hin : u < n.wells.length := by have := HK3.out; omega
                      have hu1 : (u : Int) < (k3 : Int) := by omega
                      obtain ⟨ad, ea, hb, p0, p1⟩ := levels_at (HE.out.below HW.out) hin
                      subst ea
                      have hbw := Nat.lt_of_lt_of_le hb HW.out.size
                      have l0 : n.wells[u].value.length ≤ 140737488355328 := HE4.out _ (List.getElem_mem hin)
                      have hs := sumLen_le (B := 140737488355328) (f := levelLen) HE4.out u (by omega)
                      have hs2 : sumLen levelLen (n.wells.take u) ≤ 30 * 140737488355328 := Nat.le_trans hs (Nat.mul_le_mul (by omega) (Nat.le_refl _))
                      have HSU : Hid (sumLen levelLen (n.wells.take (u + 1)) = sumLen levelLen (n.wells.take u) + n.wells[u].value.length) := hide (sumLen_succ (f := levelLen) hin)
                      clear hs p0
                      generalize n.wells[u].value = x0 at p1 l0 HSU
                      go_wp2_with fail
                      refine ⟨⟨u + 1, by omega, by go_num, congrArg (Value.int .i64) (by show _ = ((sumLen List.length n.nodes + sumLen pipeLen n.pipes + sumLen levelLen n.heads + sumLen levelLen (n.wells.take (u + 1)) : Nat) : Int); have h := HSU.out; omega), HK, HW⟩, by simp [intOf]; omega⟩
                    · obtain rfl : u = k3 := by omega
                      have HT : Hid (sumLen levelLen (n.wells.take u) = sumLen levelLen n.wells) := hide (by rw [HK3.out, List.take_length])
                      go_wp2_with fail
                      go_ret
                      exact ⟨ret_bool (HF.out.trans (decide_eq_decide.2 (by have h := HT.out; unfold netLen; omega))), HW.out⟩
end Go.Proofs.YtdecgcdkaaiglaaGreat
namespace Go.Proofs.YtdecgcdkaaiglaaGreat
open Go.RowKit Go.Deep
theorem NetWide.below {w w' : World} {v : Value} {n : Net} (h : NetWide w v n) (hb : Below w.heap.size w w') : NetWide w' v n := by
  obtain ⟨A0, c0, A1, c1, A2, c2, A3, c3, rfl, ⟨a1, a2, a3, a4⟩, ⟨b1, b2, b3, b4⟩, ⟨d1, d2, d3, d4⟩, ⟨e1, e2, e3, e4⟩⟩ := h
  exact ⟨A0, c0, A1, c1, A2, c2, A3, c3, rfl, ⟨a1, a2, (a3.below hb).more hb.size, a4⟩, ⟨b1, b2, (b3.below hb).more hb.size, b4⟩, ⟨d1, d2, (d3.below hb).more hb.size, d4⟩, ⟨e1, e2, (e3.below hb).more hb.size, e4⟩⟩
/-- a net that is not great is small -/
theorem NetWide.small {w : World} {v : Value} {n : Net} (h : NetWide w v n) (hg : isGreat n = false) : NetIs w v n := by
  unfold isGreat at hg
  rw [decide_eq_false_iff_not] at hg
  obtain ⟨A0, c0, A1, c1, A2, c2, A3, c3, rfl, ⟨a1, a2, a3, a4⟩, ⟨b1, b2, b3, b4⟩, ⟨d1, d2, d3, d4⟩, ⟨e1, e2, e3, e4⟩⟩ := h
  have hl : netLen n ≤ 1500 := by omega
  unfold netLen at hl
  refine ⟨A0, _, c0, A1, _, c1, A2, _, c2, A3, _, c3, rfl, ⟨A0, c0, rfl, a1, a2, by omega, a3, fun x hx => ?_⟩, ⟨A1, c1, rfl, b1, b2, by omega, b3, fun x hx => ?_⟩, ⟨A2, c2, rfl, d1, d2, by omega, d3, fun x hx => ?_⟩, ⟨A3, c3, rfl, e1, e2, by omega, e3, fun x hx => ?_⟩⟩
  · have := sumLen_mem (f := List.length) hx
    unfold SmallS; omega
  · have : x.name.length + (x.low.length + x.high.length) ≤ sumLen pipeLen n.pipes := sumLen_mem (f := pipeLen) hx
    unfold SmallS; omega
  · have : x.value.length ≤ sumLen levelLen n.heads := sumLen_mem (f := levelLen) hx
    unfold SmallS; omega
  · have : x.value.length ≤ sumLen levelLen n.wells := sumLen_mem (f := levelLen) hx
    unfold SmallS; omega
end Go.Proofs.YtdecgcdkaaiglaaGreat
namespace Go.Proofs.YtdecgcdkaaiglaaGreat
open Go.RowKit Go.Deep
attribute [local go_sem ↓] Go.wp_at_zero Go.wp_at_succ
structure Ask where
  cond : List (List UInt8)
  heads : List (List UInt8)
  flows : List (List UInt8)
  node : Int
  pipe : Int
  a : Int
  b : Int
  first : List UInt8
  second : List UInt8
  wells : List Int
  limits : List Level
/-- Texts in memory, of whatever size. -/
def TextsW (w : World) (A : Option Addr) (c : Nat) (l : List (List UInt8)) : Prop := l.length ≤ c ∧ c ≤ maxLen ∧ Reads w w.heap.size 1 A l.length (l.map str) ∧ ∀ x ∈ l, WideS x
theorem TextsW.below {w w' : World} {A : Option Addr} {c : Nat} {l : List (List UInt8)} (h : TextsW w A c l) (hb : Below w.heap.size w w') : TextsW w' A c l := ⟨h.1, h.2.1, (h.2.2.1.below hb).more hb.size, h.2.2.2⟩
/-- What is asked, in memory. -/
def AskWide (w : World) (v : Value) (x : Ask) : Prop :=
  ∃ A0 c0 A1 c1 A2 c2 A3 c3 A4 c4, v = .agg #[.slice A0 x.cond.length c0, .slice A1 x.heads.length c1, .slice A2 x.flows.length c2, .int .i64 x.node, .int .i64 x.pipe, .int .i64 x.a, .int .i64 x.b, str x.first, str x.second, .slice A3 x.wells.length c3, .slice A4 x.limits.length c4] ∧
    TextsW w A0 c0 x.cond ∧ TextsW w A1 c1 x.heads ∧ TextsW w A2 c2 x.flows ∧ (WideS x.first ∧ WideS x.second) ∧
    (x.wells.length ≤ c3 ∧ c3 ≤ maxLen ∧ Reads w w.heap.size 1 A3 x.wells.length (ints x.wells)) ∧
    (x.limits.length ≤ c4 ∧ c4 ≤ maxLen ∧ Reads w w.heap.size 2 A4 x.limits.length (levelsCells x.limits) ∧ ∀ v ∈ x.limits, WideS v.value)
theorem AskWide.below {w w' : World} {v : Value} {x : Ask} (h : AskWide w v x) (hb : Below w.heap.size w w') : AskWide w' v x := by
  obtain ⟨A0, c0, A1, c1, A2, c2, A3, c3, A4, c4, rfl, h0, h1, h2, h3, ⟨h4, h5, h6⟩, h7, h8, h9, h10⟩ := h
  exact ⟨A0, c0, A1, c1, A2, c2, A3, c3, A4, c4, rfl, h0.below hb, h1.below hb, h2.below hb, h3, ⟨h4, h5, (h6.below hb).more hb.size⟩, h7, h8, (h9.below hb).more hb.size, h10⟩
/-- numbers are more than statements look at -/
def isLong (l : List (List UInt8)) : Bool := decide (60 < l.length ∨ 1500 < sumLen List.length (l.take 80))
theorem isLong_small {l : List (List UInt8)} (h : isLong l = false) : l.length ≤ 60 ∧ ∀ x ∈ l, x.length ≤ 1500 := by
  unfold isLong at h
  rw [decide_eq_false_iff_not] at h
  have h1 : l.length ≤ 60 := by omega
  refine ⟨h1, fun x hx => ?_⟩
  rw [List.take_of_length_le (by omega)] at h
  have := sumLen_mem (f := List.length) hx
  omega
theorem TextsW.small {w : World} {A : Option Addr} {c : Nat} {l : List (List UInt8)} (h : TextsW w A c l) (hl : isLong l = false) : NodesIs w (.slice A l.length c) l := by
  obtain ⟨h1, h2⟩ := isLong_small hl
  exact ⟨A, c, rfl, h.1, h.2.1, by omega, h.2.2.1, fun x hx => by have := h2 x hx; unfold SmallS; omega⟩
theorem texts_at {w : World} {A : Option Addr} {l : List (List UInt8)} {B : Nat} (h : Reads w B 1 A l.length (l.map str)) {i : Nat} (hi : i < l.length) : ∃ ad, A = some ad ∧ ad.block < B ∧ w.cell? (ad.add i) = some (str l[i]) := by
  obtain ⟨ad, e, hb, hc⟩ := h.2 (by omega)
  exact ⟨ad, e, hb, hc i _ (by simp [hi])⟩
set_option maxRecDepth 100000 in
set_option maxHeartbeats 4000000 in
theorem law_long (A : Option Addr) (c : Nat) (l : List (List UInt8)) (w : World) (hl : TextsW w A c l) : Calls Tryz.prog 30 #[.slice A l.length c] w (RetB w (.bool (isLong l))) := by
  obtain ⟨h1, h2, h3, h4⟩ := hl
  have hmx : l.length ≤ maxLen := by omega
  unfold maxLen at hmx
  have HR3 := hide h3
  have H4 := hide h4
  have HW := hide (ext_refl w)
  obtain ⟨r, HR⟩ : ∃ r, Hid (isLong l = r) := ⟨_, hide rfl⟩
  rw [HR.out]
  clear h1 h2 h3 h4
  go_enter Tryz.func30, Tryz.ntmps30
  go_wp2_with fail
  go_loop [3, 4] (fun nv iv => ∃ i : Nat, i ≤ l.length ∧ i ≤ 80 ∧ iv = .int .i64 i ∧ nv = .int .i64 (sumLen List.length (l.take i) : Nat)) (fun _ iv => 80 - (intOf iv).toNat)
  case atStart => exact ⟨0, Nat.zero_le _, Nat.zero_le _, rfl, rfl⟩
  case round =>
    obtain ⟨i, hi, hi80, rfl, rfl⟩ := hrel
    have hs := sumLen_le (B := 140737488355328) (f := List.length) H4.out i hi
    have hs2 : sumLen List.length (l.take i) ≤ 80 * 140737488355328 := Nat.le_trans hs (Nat.mul_le_mul hi80 (Nat.le_refl _))
    clear hs
    by_cases hlt : i < l.length
    · have hi1 : (i : Int) < (l.length : Int) := by omega
      by_cases h80 : i < 80
      · have hi2 : (i : Int) < 80 := by omega
        obtain ⟨ad, rfl, hb, hc⟩ := texts_at HR3.out hlt
        have hx : l[i].length ≤ 140737488355328 := H4.out _ (List.getElem_mem hlt)
        have HSU := hide (sumLen_succ (f := List.length) hlt)
        generalize l[i] = x at hc hx HSU
        go_wp2_with fail
        go_round
        case rel => exact ⟨i + 1, by omega, by omega, by go_num, congrArg (Value.int .i64) (by have h := HSU.out; omega)⟩
        case measure => simp [intOf]; omega
      · have hi2 : ¬ (i : Int) < 80 := by omega
        have hl60 : (60 : Int) < (l.length : Int) := by omega
        have HF : Hid (r = true) := hide (by rw [← HR.out]; unfold isLong; rw [decide_eq_true_iff]; omega)
        go_wp2_with fail
        go_ret
        exact ⟨ret_bool HF.out, HW.out⟩
    · obtain rfl : i = l.length := by omega
      have hi1 : ¬ (l.length : Int) < (l.length : Int) := by omega
      have HE : Hid (sumLen List.length (l.take l.length) = sumLen List.length (l.take 80)) := hide (by rw [List.take_length, List.take_of_length_le hi80])
      rw [List.take_length] at HE
      by_cases h60 : 60 < l.length
      · have hl60 : (60 : Int) < (l.length : Int) := by omega
        have HF : Hid (r = true) := hide (by rw [← HR.out]; unfold isLong; rw [decide_eq_true_iff]; omega)
        go_wp2_with fail
        go_ret
        exact ⟨ret_bool HF.out, HW.out⟩
      · have hl60 : ¬ (60 : Int) < (l.length : Int) := by omega
        have HF : Hid (r = decide (1500 < ((sumLen List.length l : Nat) : Int))) := hide (by
          rw [← HR.out, HE.out]; unfold isLong
          congr 1
          apply propext
          omega)
        go_wp2_with fail
        go_ret
        exact ⟨ret_bool HF.out, HW.out⟩
/-- numbers together are more than statements look at -/
def isLong1 (l : List (List UInt8)) : Bool := decide (600 < sumLen List.length l)
set_option maxRecDepth 100000 in
set_option maxHeartbeats 4000000 in
theorem law01_Long (A : Option Addr) (c : Nat) (l : List (List UInt8)) (w : World) (hl : TextsW w A c l) (hs : l.length ≤ 1000) : Calls Tryz.prog 31 #[.slice A l.length c] w (RetB w (.bool (isLong1 l))) := by
  obtain ⟨h1, h2, h3, h4⟩ := hl
  have HR3 := hide h3
  have H4 := hide h4
  have HW := hide (ext_refl w)
  obtain ⟨r, HR⟩ : ∃ r, Hid (isLong1 l = r) := ⟨_, hide rfl⟩
  rw [HR.out]
  clear h1 h2 h3 h4
  go_enter Tryz.func31, Tryz.ntmps31
  go_wp2_with fail
  go_loop [3, 4] (fun nv iv => ∃ i : Nat, i ≤ l.length ∧ iv = .int .i64 i ∧ nv = .int .i64 (sumLen List.length (l.take i) : Nat)) (fun _ iv => l.length - (intOf iv).toNat)
  case atStart => exact ⟨0, Nat.zero_le _, rfl, rfl⟩
  case round =>
    obtain ⟨i, hi, rfl, rfl⟩ := hrel
    have hs2 := sumLen_le (B := 140737488355328) (f := List.length) H4.out i hi
    have hs3 : sumLen List.length (l.take i) ≤ 1000 * 140737488355328 := Nat.le_trans hs2 (Nat.mul_le_mul (by omega) (Nat.le_refl _))
    clear hs2
    by_cases hlt : i < l.length
    · have hi1 : (i : Int) < (l.length : Int) := by omega
      obtain ⟨ad, rfl, hb, hc⟩ := texts_at HR3.out hlt
      have hx : l[i].length ≤ 140737488355328 := H4.out _ (List.getElem_mem hlt)
      have HSU := hide (sumLen_succ (f := List.length) hlt)
      generalize l[i] = x at hc hx HSU
      go_wp2_with fail
      go_round
      case rel => exact ⟨i + 1, by omega, by go_num, congrArg (Value.int .i64) (by have h := HSU.out; omega)⟩
      case measure => simp [intOf]; omega
    · obtain rfl : i = l.length := by omega
      have hi1 : ¬ (l.length : Int) < (l.length : Int) := by omega
      have HF : Hid (r = decide (600 < ((sumLen List.length l : Nat) : Int))) := hide (by
        rw [← HR.out]; unfold isLong1
        congr 1
        apply propext
        omega)
      go_wp2_with fail
      go_ret
      exact ⟨ret_bool HF.out, HW.out⟩
end Go.Proofs.YtdecgcdkaaiglaaGreat
namespace Go.Proofs.YtdecgcdkaaiglaaGreat
open Go.RowKit Go.Deep
attribute [local go_sem ↓] Go.wp_at_zero Go.wp_at_succ
/-- what is asked is more than statements look at -/
def isWide (x : Ask) : Bool := isLong x.cond || isLong x.heads || isLong x.flows || isLong1 [x.first, x.second] || decide (40 < x.wells.length) || decide (40 < x.limits.length) || decide (1500 < sumLen levelLen x.limits)
theorem reads_two (w : World) (t : TypeId) (a b : Value) : Reads (w.alloc (.cells #[a, b] t)) (w.alloc (.cells #[a, b] t)).heap.size 1 (some ⟨w.heap.size, 0, none⟩) 2 [a, b] :=
  reads_blk (size := 1) (n := 2) (Blk.new w t ([a, b] : List Value).toArray) rfl
def WidR (l : List Level) (w : World) (ab : Array Value) (nv iv : Value) (wr : World) : Prop :=
  ∃ i : Nat, i ≤ l.length ∧ iv = .int .i64 i ∧ nv = .int .i64 (sumLen levelLen (l.take i) : Nat) ∧ Hid (Blk wr w.heap.size 31 ab) ∧ Hid (Below w.heap.size w wr)
set_option maxRecDepth 100000 in
set_option maxHeartbeats 16000000 in
theorem law_wide (v : Value) (x : Ask) (w : World) (hx : AskWide w v x) : Calls Tryz.prog 9 #[v] w (RetB w (.bool (isWide x))) := by
  obtain ⟨A0, c0, A1, c1, A2, c2, A3, c3, A4, c4, rfl, h0, h1, h2, ⟨h3, h3b⟩, ⟨h4, h5, h6⟩, h7, h8, h9, h10⟩ := hx
  have H0 := hide (fun w' (hb : Below w.heap.size w w') => law_long A0 c0 x.cond w' (h0.below hb))
  have H1 := hide (fun w' (hb : Below w.heap.size w w') => law_long A1 c1 x.heads w' (h1.below hb))
  have H2 := hide (fun w' (hb : Below w.heap.size w w') => law_long A2 c2 x.flows w' (h2.below hb))
  have H3 := hide (fun w' A (hr : Reads w' w'.heap.size 1 A 2 [str x.first, str x.second]) => law01_Long A 2 [x.first, x.second] w' ⟨Nat.le_refl _, by unfold maxLen; omega, hr, fun y hy => by simp at hy; rcases hy with rfl | rfl; exact h3; exact h3b⟩ (by simp))
  have H9 := hide h9
  have H10 := hide h10
  obtain ⟨r, HR⟩ : ∃ r, Hid (isWide x = r) := ⟨_, hide rfl⟩
  rw [HR.out]
  unfold isWide at HR
  obtain ⟨b0, e0⟩ : ∃ b, isLong x.cond = b := ⟨_, rfl⟩
  obtain ⟨b1, e1⟩ : ∃ b, isLong x.heads = b := ⟨_, rfl⟩
  obtain ⟨b2, e2⟩ : ∃ b, isLong x.flows = b := ⟨_, rfl⟩
  obtain ⟨b3, e3⟩ : ∃ b, isLong1 [x.first, x.second] = b := ⟨_, rfl⟩
  rw [e0] at H0
  rw [e1] at H1
  rw [e2] at H2
  rw [e3] at H3
  rw [e0, e1, e2, e3] at HR
  have hm4 := h8
  unfold maxLen at hm4
  clear h0 h1 h2 h3 h3b h4 h5 h6 h8 h9 h10 e0 e1 e2 e3
  obtain ⟨n0, k0⟩ : ∃ n, n = x.cond.length := ⟨_, rfl⟩
  obtain ⟨n1, k1⟩ : ∃ n, n = x.heads.length := ⟨_, rfl⟩
  obtain ⟨n2, k2⟩ : ∃ n, n = x.flows.length := ⟨_, rfl⟩
  obtain ⟨n9, k9⟩ : ∃ n, n = x.wells.length := ⟨_, rfl⟩
  obtain ⟨n10, k10⟩ : ∃ n, n = x.limits.length := ⟨_, rfl⟩
  rw [← k0, ← k1, ← k2, ← k9, ← k10]
  rw [← k0] at H0
  rw [← k1] at H1
  rw [← k2] at H2
  rw [← k10] at h7 H9
  rw [← k9, ← k10] at HR
  have HK10 := hide k10
  clear k0 k1 k2 k9 k10
  generalize x.node = z3
  generalize x.pipe = z4
  generalize x.a = z5
  generalize x.b = z6
  generalize x.first = s7 at H3 ⊢
  generalize x.second = s8 at H3 ⊢
  generalize x.limits = lim at HR H9 H10 HK10
  have HW := hide (ext_alloc w (.cells #[.slice A0 n0 c0, .slice A1 n1 c1, .slice A2 n2 c2, .int .i64 z3, .int .i64 z4, .int .i64 z5, .int .i64 z6, str s7, str s8, .slice A3 n9 c3, .slice A4 n10 c4] 31))
  have HK := hide (Blk.new w 31 #[.slice A0 n0 c0, .slice A1 n1 c1, .slice A2 n2 c2, .int .i64 z3, .int .i64 z4, .int .i64 z5, .int .i64 z6, str s7, str s8, .slice A3 n9 c3, .slice A4 n10 c4])
  have hways : b0 = true ∨ (b0 = false ∧ b1 = true) ∨ (b0 = false ∧ b1 = false ∧ b2 = true) ∨ (b0 = false ∧ b1 = false ∧ b2 = false ∧ b3 = true) ∨ (b0 = false ∧ b1 = false ∧ b2 = false ∧ b3 = false ∧ 40 < n9) ∨ (b0 = false ∧ b1 = false ∧ b2 = false ∧ b3 = false ∧ ¬ 40 < n9 ∧ 40 < n10) ∨ (b0 = false ∧ b1 = false ∧ b2 = false ∧ b3 = false ∧ ¬ 40 < n9 ∧ ¬ 40 < n10) := by
    cases b0 <;> cases b1 <;> cases b2 <;> cases b3 <;> simp <;> omega
  rcases hways with rfl | ⟨rfl, rfl⟩ | ⟨rfl, rfl, rfl⟩ | h
  · have HF : Hid (r = true) := hide (by rw [← HR.out]; simp)
    clear HR
    have r0 := HK.out.cell 0
    have r1 := HK.out.cell 1
    have r2 := HK.out.cell 2
    have r3 := HK.out.cell 3
    have r4 := HK.out.cell 4
    have r5 := HK.out.cell 5
    have r6 := HK.out.cell 6
    have r7 := HK.out.cell 7
    have r8 := HK.out.cell 8
    have r9 := HK.out.cell 9
    have r10 := HK.out.cell 10
    have rL := HK.out.lt
    simp at r0 r1 r2 r3 r4 r5 r6 r7 r8 r9 r10
    go_enter Tryz.func9, Tryz.ntmps9
    go_wp2_with fail
    refine (H0.out _ HW.out).mono ?_
    rintro e WN ⟨rfl, hbB⟩
    try clear r0 r1 r2 r3 r4 r5 r6 r7 r8 r9 r10 rL
    have HK_ := hide (HK.out.below hbB HK.out.lt)
    have HW_ := hide (ext HW.out hbB)
    clear HK HW
    have HK := HK_
    have HW := HW_
    clear HK_ HW_
    clear hbB
    have r0 := HK.out.cell 0
    have r1 := HK.out.cell 1
    have r2 := HK.out.cell 2
    have r3 := HK.out.cell 3
    have r4 := HK.out.cell 4
    have r5 := HK.out.cell 5
    have r6 := HK.out.cell 6
    have r7 := HK.out.cell 7
    have r8 := HK.out.cell 8
    have r9 := HK.out.cell 9
    have r10 := HK.out.cell 10
    have rL := HK.out.lt
    simp at r0 r1 r2 r3 r4 r5 r6 r7 r8 r9 r10
    go_wp2_with fail
    go_ret
    exact ⟨ret_bool HF.out, HW.out⟩
  · have HF : Hid (r = true) := hide (by rw [← HR.out]; simp)
    clear HR
    have r0 := HK.out.cell 0
    have r1 := HK.out.cell 1
    have r2 := HK.out.cell 2
    have r3 := HK.out.cell 3
    have r4 := HK.out.cell 4
    have r5 := HK.out.cell 5
    have r6 := HK.out.cell 6
    have r7 := HK.out.cell 7
    have r8 := HK.out.cell 8
    have r9 := HK.out.cell 9
    have r10 := HK.out.cell 10
    have rL := HK.out.lt
    simp at r0 r1 r2 r3 r4 r5 r6 r7 r8 r9 r10
    go_enter Tryz.func9, Tryz.ntmps9
    go_wp2_with fail
    refine (H0.out _ HW.out).mono ?_
    rintro e WN ⟨rfl, hbB⟩
    try clear r0 r1 r2 r3 r4 r5 r6 r7 r8 r9 r10 rL
    have HK_ := hide (HK.out.below hbB HK.out.lt)
    have HW_ := hide (ext HW.out hbB)
    clear HK HW
    have HK := HK_
    have HW := HW_
    clear HK_ HW_
    clear hbB
    have r0 := HK.out.cell 0
    have r1 := HK.out.cell 1
    have r2 := HK.out.cell 2
    have r3 := HK.out.cell 3
    have r4 := HK.out.cell 4
    have r5 := HK.out.cell 5
    have r6 := HK.out.cell 6
    have r7 := HK.out.cell 7
    have r8 := HK.out.cell 8
    have r9 := HK.out.cell 9
    have r10 := HK.out.cell 10
    have rL := HK.out.lt
    simp at r0 r1 r2 r3 r4 r5 r6 r7 r8 r9 r10
    go_wp2_with fail
    refine (H1.out _ HW.out).mono ?_
    rintro e WN ⟨rfl, hbB⟩
    try clear r0 r1 r2 r3 r4 r5 r6 r7 r8 r9 r10 rL
    have HK_ := hide (HK.out.below hbB HK.out.lt)
    have HW_ := hide (ext HW.out hbB)
    clear HK HW
    have HK := HK_
    have HW := HW_
    clear HK_ HW_
    clear hbB
    have r0 := HK.out.cell 0
    have r1 := HK.out.cell 1
    have r2 := HK.out.cell 2
    have r3 := HK.out.cell 3
    have r4 := HK.out.cell 4
    have r5 := HK.out.cell 5
    have r6 := HK.out.cell 6
    have r7 := HK.out.cell 7
    have r8 := HK.out.cell 8
    have r9 := HK.out.cell 9
    have r10 := HK.out.cell 10
    have rL := HK.out.lt
    simp at r0 r1 r2 r3 r4 r5 r6 r7 r8 r9 r10
    go_wp2_with fail
    go_ret
    exact ⟨ret_bool HF.out, HW.out⟩
  · have HF : Hid (r = true) := hide (by rw [← HR.out]; simp)
    clear HR
    have r0 := HK.out.cell 0
    have r1 := HK.out.cell 1
    have r2 := HK.out.cell 2
    have r3 := HK.out.cell 3
    have r4 := HK.out.cell 4
    have r5 := HK.out.cell 5
    have r6 := HK.out.cell 6
    have r7 := HK.out.cell 7
    have r8 := HK.out.cell 8
    have r9 := HK.out.cell 9
    have r10 := HK.out.cell 10
    have rL := HK.out.lt
    simp at r0 r1 r2 r3 r4 r5 r6 r7 r8 r9 r10
    go_enter Tryz.func9, Tryz.ntmps9
    go_wp2_with fail
    refine (H0.out _ HW.out).mono ?_
    rintro e WN ⟨rfl, hbB⟩
    try clear r0 r1 r2 r3 r4 r5 r6 r7 r8 r9 r10 rL
    have HK_ := hide (HK.out.below hbB HK.out.lt)
    have HW_ := hide (ext HW.out hbB)
    clear HK HW
    have HK := HK_
    have HW := HW_
    clear HK_ HW_
    clear hbB
    have r0 := HK.out.cell 0
    have r1 := HK.out.cell 1
    have r2 := HK.out.cell 2
    have r3 := HK.out.cell 3
    have r4 := HK.out.cell 4
    have r5 := HK.out.cell 5
    have r6 := HK.out.cell 6
    have r7 := HK.out.cell 7
    have r8 := HK.out.cell 8
    have r9 := HK.out.cell 9
    have r10 := HK.out.cell 10
    have rL := HK.out.lt
    simp at r0 r1 r2 r3 r4 r5 r6 r7 r8 r9 r10
    go_wp2_with fail
    refine (H1.out _ HW.out).mono ?_
    rintro e WN ⟨rfl, hbB⟩
    try clear r0 r1 r2 r3 r4 r5 r6 r7 r8 r9 r10 rL
    have HK_ := hide (HK.out.below hbB HK.out.lt)
    have HW_ := hide (ext HW.out hbB)
    clear HK HW
    have HK := HK_
    have HW := HW_
    clear HK_ HW_
    clear hbB
    have r0 := HK.out.cell 0
    have r1 := HK.out.cell 1
    have r2 := HK.out.cell 2
    have r3 := HK.out.cell 3
    have r4 := HK.out.cell 4
    have r5 := HK.out.cell 5
    have r6 := HK.out.cell 6
    have r7 := HK.out.cell 7
    have r8 := HK.out.cell 8
    have r9 := HK.out.cell 9
    have r10 := HK.out.cell 10
    have rL := HK.out.lt
    simp at r0 r1 r2 r3 r4 r5 r6 r7 r8 r9 r10
    go_wp2_with fail
    refine (H2.out _ HW.out).mono ?_
    rintro e WN ⟨rfl, hbB⟩
    try clear r0 r1 r2 r3 r4 r5 r6 r7 r8 r9 r10 rL
    have HK_ := hide (HK.out.below hbB HK.out.lt)
    have HW_ := hide (ext HW.out hbB)
    clear HK HW
    have HK := HK_
    have HW := HW_
    clear HK_ HW_
    clear hbB
    have r0 := HK.out.cell 0
    have r1 := HK.out.cell 1
    have r2 := HK.out.cell 2
    have r3 := HK.out.cell 3
    have r4 := HK.out.cell 4
    have r5 := HK.out.cell 5
    have r6 := HK.out.cell 6
    have r7 := HK.out.cell 7
    have r8 := HK.out.cell 8
    have r9 := HK.out.cell 9
    have r10 := HK.out.cell 10
    have rL := HK.out.lt
    simp at r0 r1 r2 r3 r4 r5 r6 r7 r8 r9 r10
    go_wp2_with fail
    go_ret
    exact ⟨ret_bool HF.out, HW.out⟩
  · obtain ⟨rfl, rfl, rfl⟩ : b0 = false ∧ b1 = false ∧ b2 = false := by rcases h with h | h | h | h <;> exact ⟨h.1, h.2.1, h.2.2.1⟩
    simp only [true_and] at h
    have HH := hide h
    clear h
    have r0 := HK.out.cell 0
    have r1 := HK.out.cell 1
    have r2 := HK.out.cell 2
    have r3 := HK.out.cell 3
    have r4 := HK.out.cell 4
    have r5 := HK.out.cell 5
    have r6 := HK.out.cell 6
    have r7 := HK.out.cell 7
    have r8 := HK.out.cell 8
    have r9 := HK.out.cell 9
    have r10 := HK.out.cell 10
    have rL := HK.out.lt
    simp at r0 r1 r2 r3 r4 r5 r6 r7 r8 r9 r10
    go_enter Tryz.func9, Tryz.ntmps9
    go_wp2_with fail
    refine (H0.out _ HW.out).mono ?_
    rintro e WN ⟨rfl, hbB⟩
    try clear r0 r1 r2 r3 r4 r5 r6 r7 r8 r9 r10 rL
    have HK_ := hide (HK.out.below hbB HK.out.lt)
    have HW_ := hide (ext HW.out hbB)
    clear HK HW
    have HK := HK_
    have HW := HW_
    clear HK_ HW_
    clear hbB
    have r0 := HK.out.cell 0
    have r1 := HK.out.cell 1
    have r2 := HK.out.cell 2
    have r3 := HK.out.cell 3
    have r4 := HK.out.cell 4
    have r5 := HK.out.cell 5
    have r6 := HK.out.cell 6
    have r7 := HK.out.cell 7
    have r8 := HK.out.cell 8
    have r9 := HK.out.cell 9
    have r10 := HK.out.cell 10
    have rL := HK.out.lt
    simp at r0 r1 r2 r3 r4 r5 r6 r7 r8 r9 r10
    go_wp2_with fail
    refine (H1.out _ HW.out).mono ?_
    rintro e WN ⟨rfl, hbB⟩
    try clear r0 r1 r2 r3 r4 r5 r6 r7 r8 r9 r10 rL
    have HK_ := hide (HK.out.below hbB HK.out.lt)
    have HW_ := hide (ext HW.out hbB)
    clear HK HW
    have HK := HK_
    have HW := HW_
    clear HK_ HW_
    clear hbB
    have r0 := HK.out.cell 0
    have r1 := HK.out.cell 1
    have r2 := HK.out.cell 2
    have r3 := HK.out.cell 3
    have r4 := HK.out.cell 4
    have r5 := HK.out.cell 5
    have r6 := HK.out.cell 6
    have r7 := HK.out.cell 7
    have r8 := HK.out.cell 8
    have r9 := HK.out.cell 9
    have r10 := HK.out.cell 10
    have rL := HK.out.lt
    simp at r0 r1 r2 r3 r4 r5 r6 r7 r8 r9 r10
    go_wp2_with fail
    refine (H2.out _ HW.out).mono ?_
    rintro e WN ⟨rfl, hbB⟩
    try clear r0 r1 r2 r3 r4 r5 r6 r7 r8 r9 r10 rL
    have HK_ := hide (HK.out.below hbB HK.out.lt)
    have HW_ := hide (ext HW.out hbB)
    clear HK HW
    have HK := HK_
    have HW := HW_
    clear HK_ HW_
    clear hbB
    have r0 := HK.out.cell 0
    have r1 := HK.out.cell 1
    have r2 := HK.out.cell 2
    have r3 := HK.out.cell 3
    have r4 := HK.out.cell 4
    have r5 := HK.out.cell 5
    have r6 := HK.out.cell 6
    have r7 := HK.out.cell 7
    have r8 := HK.out.cell 8
    have r9 := HK.out.cell 9
    have r10 := HK.out.cell 10
    have rL := HK.out.lt
    simp at r0 r1 r2 r3 r4 r5 r6 r7 r8 r9 r10
    have h := HH.out
    clear HH H0 H1 H2
    rcases h with rfl | ⟨rfl, g9⟩ | ⟨rfl, g9, g10⟩ | ⟨rfl, g9, g10⟩
    · have HF : Hid (r = true) := hide (by rw [← HR.out]; simp)
      clear HR
      go_wp2_with fail
      have hx := ext_alloc WN (.cells #[str s7, str s8] 28)
      have HK_ := hide (HK.out.below hx HK.out.lt)
      have HW_ := hide (ext HW.out hx)
      clear HK HW
      have HK := HK_
      have HW := HW_
      clear HK_ HW_
      refine (H3.out _ _ (reads_two _ _ _ _)).mono ?_
      rintro e WM ⟨rfl, hbB⟩
      have HK_ := hide (HK.out.below hbB HK.out.lt)
      have HW_ := hide (ext HW.out hbB)
      clear HK HW
      have HK := HK_
      have HW := HW_
      clear HK_ HW_
      clear hx hbB
      go_wp2_with fail
      go_ret
      exact ⟨ret_bool HF.out, HW.out⟩
    · have HF : Hid (r = true) := hide (by rw [← HR.out]; simp [g9])
      have g9i : (40 : Int) < (n9 : Int) := by omega
      clear HR
      go_wp2_with fail
      have hx := ext_alloc WN (.cells #[str s7, str s8] 28)
      have HK_ := hide (HK.out.below hx HK.out.lt)
      have HW_ := hide (ext HW.out hx)
      clear HK HW
      have HK := HK_
      have HW := HW_
      clear HK_ HW_
      refine (H3.out _ _ (reads_two _ _ _ _)).mono ?_
      rintro e WM ⟨rfl, hbB⟩
      clear r0 r1 r2 r3 r4 r5 r6 r7 r8 r9 r10 rL
      have HK_ := hide (HK.out.below hbB HK.out.lt)
      have HW_ := hide (ext HW.out hbB)
      clear HK HW
      have HK := HK_
      have HW := HW_
      clear HK_ HW_
      have r0 := HK.out.cell 0
      have r1 := HK.out.cell 1
      have r2 := HK.out.cell 2
      have r3 := HK.out.cell 3
      have r4 := HK.out.cell 4
      have r5 := HK.out.cell 5
      have r6 := HK.out.cell 6
      have r7 := HK.out.cell 7
      have r8 := HK.out.cell 8
      have r9 := HK.out.cell 9
      have r10 := HK.out.cell 10
      have rL := HK.out.lt
      simp at r0 r1 r2 r3 r4 r5 r6 r7 r8 r9 r10
      clear hx hbB
      go_wp2_with fail
      go_ret
      exact ⟨ret_bool HF.out, HW.out⟩
    · have HF : Hid (r = true) := hide (by rw [← HR.out]; simp [g9, g10])
      have g9i : ¬ (40 : Int) < (n9 : Int) := by omega
      have g10i : (40 : Int) < (n10 : Int) := by omega
      clear HR
      go_wp2_with fail
      have hx := ext_alloc WN (.cells #[str s7, str s8] 28)
      have HK_ := hide (HK.out.below hx HK.out.lt)
      have HW_ := hide (ext HW.out hx)
      clear HK HW
      have HK := HK_
      have HW := HW_
      clear HK_ HW_
      refine (H3.out _ _ (reads_two _ _ _ _)).mono ?_
      rintro e WM ⟨rfl, hbB⟩
      clear r0 r1 r2 r3 r4 r5 r6 r7 r8 r9 r10 rL
      have HK_ := hide (HK.out.below hbB HK.out.lt)
      have HW_ := hide (ext HW.out hbB)
      clear HK HW
      have HK := HK_
      have HW := HW_
      clear HK_ HW_
      have r0 := HK.out.cell 0
      have r1 := HK.out.cell 1
      have r2 := HK.out.cell 2
      have r3 := HK.out.cell 3
      have r4 := HK.out.cell 4
      have r5 := HK.out.cell 5
      have r6 := HK.out.cell 6
      have r7 := HK.out.cell 7
      have r8 := HK.out.cell 8
      have r9 := HK.out.cell 9
      have r10 := HK.out.cell 10
      have rL := HK.out.lt
      simp at r0 r1 r2 r3 r4 r5 r6 r7 r8 r9 r10
      clear hx hbB
      go_wp2_with fail
      go_ret
      exact ⟨ret_bool HF.out, HW.out⟩
    · have HF : Hid (r = decide (1500 < ((sumLen levelLen lim : Nat) : Int))) := hide (by
        rw [← HR.out]
        simp only [g9, g10, decide_false, Bool.or_false, Bool.false_or]
        congr 1
        apply propext
        omega)
      have g9i : ¬ (40 : Int) < (n9 : Int) := by omega
      have g10i : ¬ (40 : Int) < (n10 : Int) := by omega
      clear HR
      go_wp2_with fail
      have hx := ext_alloc WN (.cells #[str s7, str s8] 28)
      have HK_ := hide (HK.out.below hx HK.out.lt)
      have HW_ := hide (ext HW.out hx)
      clear HK HW
      have HK := HK_
      have HW := HW_
      clear HK_ HW_
      refine (H3.out _ _ (reads_two _ _ _ _)).mono ?_
      rintro e WM ⟨rfl, hbB⟩
      clear r0 r1 r2 r3 r4 r5 r6 r7 r8 r9 r10 rL
      have HK_ := hide (HK.out.below hbB HK.out.lt)
      have HW_ := hide (ext HW.out hbB)
      clear HK HW
      have HK := HK_
      have HW := HW_
      clear HK_ HW_
      have r0 := HK.out.cell 0
      have r1 := HK.out.cell 1
      have r2 := HK.out.cell 2
      have r3 := HK.out.cell 3
      have r4 := HK.out.cell 4
      have r5 := HK.out.cell 5
      have r6 := HK.out.cell 6
      have r7 := HK.out.cell 7
      have r8 := HK.out.cell 8
      have r9 := HK.out.cell 9
      have r10 := HK.out.cell 10
      have rL := HK.out.lt
      simp at r0 r1 r2 r3 r4 r5 r6 r7 r8 r9 r10
      clear hx hbB
      go_wp2_with fail
      clear r0 r1 r2 r3 r4 r5 r6 r7 r8 r9 r10 rL
      clear g9i
      go_loopw [3, 4] (WidR lim w #[.slice A0 n0 c0, .slice A1 n1 c1, .slice A2 n2 c2, .int .i64 z3, .int .i64 z4, .int .i64 z5, .int .i64 z6, str s7, str s8, .slice A3 n9 c3, .slice A4 n10 c4]) (fun _ iv _ => n10 - (intOf iv).toNat)
      case atStart => exact ⟨0, Nat.zero_le _, rfl, rfl, HK, HW⟩
      case round =>
        clear HK HW
        obtain ⟨i, hi, rfl, rfl, HK, HW⟩ := hrel
        have r0 := HK.out.cell 0
        have r1 := HK.out.cell 1
        have r2 := HK.out.cell 2
        have r3 := HK.out.cell 3
        have r4 := HK.out.cell 4
        have r5 := HK.out.cell 5
        have r6 := HK.out.cell 6
        have r7 := HK.out.cell 7
        have r8 := HK.out.cell 8
        have r9 := HK.out.cell 9
        have r10 := HK.out.cell 10
        have rL := HK.out.lt
        simp at r0 r1 r2 r3 r4 r5 r6 r7 r8 r9 r10
        have hs := sumLen_le (B := 140737488355328) (f := levelLen) H10.out i hi
        have hs2 : sumLen levelLen (lim.take i) ≤ 40 * 140737488355328 := Nat.le_trans hs (Nat.mul_le_mul (by have := HK10.out; omega) (Nat.le_refl _))
        clear hs
        by_cases hlt : i < n10
        · have hin : i < lim.length := by have := HK10.out; omega
          have hi1 : (i : Int) < (n10 : Int) := by omega
          obtain ⟨ad, ea, hb, q0, q1⟩ := levels_at (H9.out.below HW.out) hin
          subst ea
          have hx : lim[i].value.length ≤ 140737488355328 := H10.out _ (List.getElem_mem hin)
          have HSU : Hid (sumLen levelLen (lim.take (i + 1)) = sumLen levelLen (lim.take i) + lim[i].value.length) := hide (sumLen_succ (f := levelLen) hin)
          clear q0
          generalize lim[i].value = y at q1 hx HSU
          go_wp2_with fail
          refine ⟨⟨i + 1, by have := HK10.out; omega, by go_num, congrArg (Value.int .i64) (by have h := HSU.out; omega), HK, HW⟩, by simp [intOf]; omega⟩
        · obtain rfl : i = n10 := by have := HK10.out; omega
          have HE : Hid (sumLen levelLen (lim.take i) = sumLen levelLen lim) := hide (by rw [HK10.out, List.take_length])
          go_wp2_with fail
          go_ret
          exact ⟨ret_bool (by rw [HE.out]; exact HF.out), HW.out⟩
end Go.Proofs.YtdecgcdkaaiglaaGreat
namespace Go.Proofs.YtdecgcdkaaiglaaGreat
/-- flows have a common denominator -/
def Terms (N np : Nat) (c h : Nat → Rat) (S : Int) (F : Nat) : Prop := S ≠ 0 ∧ S.natAbs ≤ 10 ^ F ∧ ∀ i, i < np → ∀ x, x < N → ∀ y, y < N → MulQ S (10 ^ (F + 1)) (c i * (h x - h y))
theorem terms_of {N np E : Nat} {c h : Nat → Rat} (hc : ∀ i, i < np → Dz 12 (c i)) (hnp : np ≤ 9) (hC : Common N h E) : ∃ S, Terms N np c h S (E + 108) := by
  obtain ⟨T, t1, t2, t3⟩ := hC
  obtain ⟨p1, p2⟩ := prod_dz hc
  have hp : 10 ^ (12 * np) ≤ 10 ^ 108 := Nat.pow_le_pow_right (by omega) (by omega)
  refine ⟨(prodTo np (fun j => (c j).den) : Int) * T, Int.mul_ne_zero (by omega) t1, ?_, fun i hi x hx y hy => ?_⟩
  · rw [Int.natAbs_mul, Int.natAbs_natCast, Nat.add_comm, Nat.pow_add]
    exact Nat.mul_le_mul (Nat.le_trans p1 hp) t2
  · refine ((MulQ.prod hc hi).mul ((t3 x hx).sub (t3 y hy))).mono ?_
    rw [show E + 108 + 1 = 108 + (E + 1) by omega, Nat.pow_add, Nat.pow_succ]
    exact Nat.mul_le_mul hp (by omega)
section
variable {N np F : Nat} {pf pt : Nat → Nat} {c h : Nat → Rat} {S : Int}
theorem Terms.short (t : Terms N np c h S F) (hF : F < 49990) {i x y : Nat} (hi : i < np) (hx : x < N) (hy : y < N) : Short 50000 (c i * (h x - h y)) := by
  obtain ⟨t1, t2, t3⟩ := t
  exact Dz.short (e := F + 1) ((t3 i hi x hx y hy).sz t1 (Nat.le_refl _) (Nat.le_trans t2 (Nat.pow_le_pow_right (by omega) (by omega)))) (by omega)
theorem Terms.flow (t : Terms N np c h S F) (hp : Piped N np pf pt c) (hnp : np ≤ 9) (k : Nat) {n : Nat} (hn : n ≤ np) : MulQ S (10 ^ (F + 3)) (flowTo n pf pt c h k) := by
  obtain ⟨t1, t2, t3⟩ := t
  have h1 : MulQ S (n * (10 ^ (F + 1) + 10 ^ (F + 1))) (flowTo n pf pt c h k) := MulQ.sum fun i hi => by
    have e1 := t3 i (by omega) _ (hp.from_lt i (by omega)) _ (hp.to_lt i (by omega))
    have e2 := t3 i (by omega) _ (hp.to_lt i (by omega)) _ (hp.from_lt i (by omega))
    refine MulQ.add ?_ ?_
    · split
      · exact e1
      · exact MulQ.zero _ _
    · split
      · exact e2
      · exact MulQ.zero _ _
  refine h1.mono ?_
  rw [show F + 3 = F + 1 + 2 by omega, Nat.pow_add (m := F + 1)]
  generalize 10 ^ (F + 1) = Y
  have : n * (Y + Y) ≤ 9 * (Y + Y) := Nat.mul_le_mul (by omega) (Nat.le_refl _)
  omega
theorem Terms.flow_short (t : Terms N np c h S F) (hF : F < 49990) (hp : Piped N np pf pt c) (hnp : np ≤ 9) (k : Nat) {n : Nat} (hn : n ≤ np) : Short 50000 (flowTo n pf pt c h k) :=
  Dz.short (e := F + 3) ((t.flow hp hnp k hn).sz t.1 (Nat.le_refl _) (Nat.le_trans t.2.1 (Nat.pow_le_pow_right (by omega) (by omega)))) (by omega)
end
section
variable {N np : Nat} {pf pt : Nat → Nat} {c : Nat → Rat} {fx : Nat → Option Rat} {wl : Nat → Rat} {asked : Nat → Bool}
theorem Common.more {n E F : Nat} {h : Nat → Rat} (hc : Common n h E) (hE : E ≤ F) : Common n h F := by
  obtain ⟨T, t1, t2, t3⟩ := hc
  have hp : 10 ^ E ≤ 10 ^ F := Nat.pow_le_pow_right (by omega) hE
  exact ⟨T, t1, Nat.le_trans t2 hp, fun k hk => (t3 k hk).mono hp⟩
theorem Given.commonE (h : Given N np pf pt c fx wl asked) {v : Nat → Rat} (hh : IsHeads N np pf pt c fx wl asked v) : Common N v 12735 := by
  refine (h.common hh).more ?_
  have h1 := h.rank_le
  have h2 := h.hN
  have h3 : 2 ^ rank (isFree fx asked) N ≤ 2 ^ 6 := Nat.pow_le_pow_right (by omega) h1
  omega
theorem Given.terms (h : Given N np pf pt c fx wl asked) {v : Nat → Rat} (hh : IsHeads N np pf pt c fx wl asked v) : ∃ S, Terms N np c v S 12843 := terms_of h.cd h.hp (h.commonE hh)
theorem Common.diff {n E : Nat} {h : Nat → Rat} (hc : Common n h E) (hE : E < 49990) {x y : Nat} (hx : x < n) (hy : y < n) : Short 50000 (h x - h y) := by
  obtain ⟨T, h1, h2, h3⟩ := hc
  refine Dz.short (e := E + 1) (((h3 x hx).sub (h3 y hy)).sz h1 ?_ (Nat.le_trans h2 (Nat.pow_le_pow_right (by omega) (by omega)))) (by omega)
  rw [Nat.pow_succ]; omega
end
end Go.Proofs.YtdecgcdkaaiglaaGreat
namespace Go.Proofs.YtdecgcdkaaiglaaGreat
open Go.RowKit Go.Deep
attribute [local go_sem ↓] Go.wp_at_zero Go.wp_at_succ
theorem cond_at {w : World} {A : Option Addr} {m c : Nat} {l : List (List UInt8)} (h : NodesIs w (.slice A m c) l) {i : Nat} (hi : i < l.length) : ∃ ad, A = some ad ∧ ad.block < w.heap.size ∧ w.cell? (ad.add i) = some (str l[i]) := by
  obtain ⟨A', c', e, _, _, _, hr, _⟩ := h
  injection e with e1 e2 e3
  subst e1
  exact texts_at hr hi
theorem row_at {w : World} {A : Option Addr} {N B : Nat} {f : Nat → Value} (h : Reads w B 1 A N (row N f)) {i : Nat} (hi : i < N) : ∃ ad, A = some ad ∧ ad.block < B ∧ ∀ j, j < N → w.cell? (ad.add j) = some (f j) := by
  obtain ⟨ad, e, hb, hc⟩ := h.2 (by omega)
  exact ⟨ad, e, hb, fun j hj => hc j _ (by simp [row, hj])⟩
theorem own_reads1 {w : World} {base : Nat} {e : TypeId} {v : Value} {n : Nat} {xs : List Value} (h : w.ownsRow base e 1 v n xs) : ∃ A c, v = .slice A n c ∧ n ≤ c ∧ Reads w w.heap.size 1 A n xs := by
  obtain ⟨A, c, rfl⟩ := own_slice h
  refine ⟨A, c, rfl, ?_, Reads.of_own h⟩
  rcases h.2 with ⟨h0, h1⟩ | ⟨g, cap, cur, hv, _, _, hcap, _⟩
  · omega
  · injection hv with _ _ e3; omega
/-- the flow in a pipe -/
def flowAt (n : Net) (cs : List (List UInt8)) (h : Nat → Rat) (i : Nat) : Rat := condOf cs i * (h (n.pf i) - h (n.pt i))
def FloR (n : Net) (cs : List (List UInt8)) (h : Nat → Rat) (w : World) (ov iv : Value) (wr : World) : Prop :=
  ∃ i : Nat, i ≤ n.pipes.length ∧ iv = .int .i64 i ∧ Hid (wr.ownsRow w.heap.size 28 1 ov i ((List.range i).map fun i => str (fracText (flowAt n cs h i)))) ∧ Hid (Below w.heap.size w wr)
/-- .. in a block of its own -/
def RetFlowsO (n : Net) (cs : List (List UInt8)) (w : World) (e : Ending) (w' : World) : Prop :=
  Below w.heap.size w w' ∧ ((askErr n cs ≠ 0 ∧ e = .returned (.tuple #[.slice none 0 0, .int .i64 (askErr n cs)])) ∨
    (askErr n cs = 0 ∧ ∃ (A : Option Addr) (cap : Nat) (h : Nat → Rat) (B : Nat), e = .returned (.tuple #[.slice A n.pipes.length cap, .int .i64 0]) ∧ NetHeads n cs h ∧ w.heap.size ≤ B ∧
      w'.ownsRow B 28 1 (.slice A n.pipes.length cap) n.pipes.length ((List.range n.pipes.length).map fun i => str (fracText (flowAt n cs h i)))))
set_option maxRecDepth 100000 in
set_option maxHeartbeats 16000000 in
theorem water_FlowsO (vn vc : Value) (n : Net) (cs : List (List UInt8)) (w : World) (hn : NetIs w vn n) (hc : NodesIs w vc cs) (hsz : n.err = 0 → n.nodes.length ≤ 6 ∧ n.pipes.length ≤ 9) :
    Calls Tryz.prog 17 #[vn, vc] w (RetFlowsO n cs w) := by
  have h1 := fun w' (h : Below w.heap.size w w') => water_Heads vn vc n cs w' (hn.below h) (hc.below h) hsz
  have hc2 := hc
  obtain ⟨Ac, cc, rfl, _⟩ := hc2
  have HCN := hide hc
  unfold RetHeads at h1
  unfold RetFlowsO
  obtain ⟨x, HX⟩ : ∃ x, Hid (askErr n cs = x) := ⟨_, hide rfl⟩
  rw [HX.out] at h1 ⊢
  obtain ⟨A0, k0, c0, A1, k1, c1, A2, k2, c2, A3, k3, c3, rfl, hn0, hn1, hn2, hn3⟩ := hn
  have HN1 := hide hn1
  have hk1 : k1 = n.pipes.length := by obtain ⟨A', c', e, _⟩ := hn1; injection e
  have hk1000 : k1 ≤ 1000 := by obtain ⟨A', c', e, _, _, h6, _⟩ := hn1; omega
  have HK1 := hide hk1
  have HW := hide (ext_alloc w (.cells #[.slice A0 k0 c0, .slice A1 k1 c1, .slice A2 k2 c2, .slice A3 k3 c3] 26))
  have HK := hide (Blk.new w 26 #[.slice A0 k0 c0, .slice A1 k1 c1, .slice A2 k2 c2, .slice A3 k3 c3])
  have HSZ := hide hsz
  clear hn0 hn1 hn2 hn3 hc hk1 hsz
  have r0 := HK.out.cell 0
  have r1 := HK.out.cell 1
  have r2 := HK.out.cell 2
  have r3 := HK.out.cell 3
  have rL := HK.out.lt
  simp at r0 r1 r2 r3
  go_enter Tryz.func17, Tryz.ntmps17
  go_wp2_with fail
  refine (h1 _ HW.out).mono ?_
  rintro e WN ⟨hbB, ⟨h0, rfl⟩ | ⟨h0, A9, cap9, h, rfl, hcap, hIs, hdz, hrd⟩⟩
  · have HNE := hide h0
    have hI : (x != 0) = true := by rw [bne_iff_ne]; exact h0
    clear h0 r0 r1 r2 r3 rL
    have HK_ := hide (HK.out.below hbB HK.out.lt)
    have HW_ := hide (ext HW.out hbB)
    clear HK HW
    have HK := HK_
    have HW := HW_
    clear HK_ HW_
    clear hbB h1
    go_wp2_with fail
    go_ret2
    exact ⟨HW.out, .inl ⟨HNE.out, rfl⟩⟩
  · subst h0
    have hz : n.err = 0 ∧ condErr n cs = 0 := by
      have h0 := HX.out
      unfold askErr at h0
      by_cases h3 : n.err = 0
      · rw [if_neg (by rw [h3]; decide)] at h0; exact ⟨h3, h0⟩
      · rw [if_pos h3] at h0; exact absurd h0 h3
    have HG := hide (given_of hz.1 hz.2 (HSZ.out hz.1).1 (HSZ.out hz.1).2)
    have HEN := hide (Net.err_zero hz.1).1.1.1.ends
    have HCG := hide (cond_get hz.2)
    have HIS := hide hIs
    have HRD := hide hrd
    clear r0 r1 r2 r3 rL hz hIs hdz hrd hcap
    have HK_ := hide (HK.out.below hbB HK.out.lt)
    have HW_ := hide (ext HW.out hbB)
    clear HK HW
    have HK := HK_
    have HW := HW_
    clear HK_ HW_
    clear hbB h1 HSZ
    have r0 := HK.out.cell 0
    have r1 := HK.out.cell 1
    have r2 := HK.out.cell 2
    have r3 := HK.out.cell 3
    have rL := HK.out.lt
    simp at r0 r1 r2 r3
    obtain ⟨S, HT⟩ : ∃ S, Hid (Terms n.nodes.length n.pipes.length (condOf cs) h S 12843) := HG.out.terms HIS.out
    have HCO := hide (HG.out.commonE HIS.out)
    have HPI := hide HG.out.piped
    clear HG
    generalize n.nodes.length = N at HRD HT HCO HPI ⊢
    obtain ⟨i0, hi0, hz0, hz1, hz2⟩ := info_parts infoFrac
    go_wp2_with fail
    clear r0 r1 r2 r3 rL
    go_loopw [8, 23] (FloR n cs h WN) (fun _ iv _ => k1 - (intOf iv).toNat)
    case atStart => exact ⟨0, Nat.zero_le _, rfl, World.ownsRow_nil _ _ _ _, hide (ext_refl WN)⟩
    case round =>
      obtain ⟨i, hi, rfl, HO, HWR⟩ := hrel
      by_cases hil : i < k1
      · have hin : i < n.pipes.length := by have := HK1.out; omega
        have hii : (i : Int) < (k1 : Int) := by omega
        obtain ⟨ad, e1, hb, p0, p1, p2, p3, p4⟩ := (HN1.out.below (ext HW.out HWR.out)).at_ hin
        subst e1
        have hic : i < cs.length := by have := HCG.out.1; omega
        obtain ⟨ac, e2, lc, qc⟩ := cond_at (HCN.out.below (ext HW.out HWR.out)) hic
        subst e2
        have hci := HCG.out.2 i hic
        rw [hci.1] at qc
        have hcs : Short 50000 (condOf cs i) := Dz.short (Short.sz hci.2.1) (show 12 < 50000 by omega)
        have hcc : numOf (cs.getD i []) = condOf cs i := rfl
        rw [hcc] at qc
        obtain ⟨q1, q2, q3, q4⟩ := HEN.out i hin
        rw [q1] at p1
        rw [q3] at p2
        have hf0 : n.pf i < N := HPI.out.from_lt i hin
        have ht0 : n.pt i < N := HPI.out.to_lt i hin
        obtain ⟨a9, e3, l9, h9⟩ := row_at (HRD.out.below HWR.out) hf0
        subst e3
        have u1 := h9 _ hf0
        have u2 := h9 _ ht0
        have l9' := Nat.lt_of_lt_of_le l9 HWR.out.size
        have hx := ext_alloc wr (.cells #[str n.pipes[i].name, .int .i64 (n.pf i : Int), .int .i64 (n.pt i : Int), str n.pipes[i].low, str n.pipes[i].high] 47)
        have s1 : Short 50000 (h (n.pf i)) := Dz.short (HCO.out.get hf0) (by omega)
        have s2 : Short 50000 (h (n.pt i)) := Dz.short (HCO.out.get ht0) (by omega)
        have s3 : Short 50000 (h (n.pf i) - h (n.pt i)) := HCO.out.diff (by omega) hf0 ht0
        have s4 : Short 50000 (condOf cs i * (h (n.pf i) - h (n.pt i))) := HT.out.short (by omega) hin hf0 ht0
        have hmi := fun w' => minus_call (fracText (h (n.pf i))) (fracText (h (n.pt i))) w' (frac_small s1) (frac_small s2)
        have htm := fun w' => times_call (fracText (condOf cs i)) (fracText (h (n.pf i) - h (n.pt i))) w' (frac_small hcs) (frac_small s3)
        unfold minusT at hmi
        unfold timesT at htm
        rw [op2_txt s1 s2 s3] at hmi
        rw [op2_txt hcs s3 s4] at htm
        have hfl : condOf cs i * (h (n.pf i) - h (n.pt i)) = flowAt n cs h i := rfl
        rw [hfl] at htm
        clear hci hcs hcc q1 q2 q3 q4 h9 s1 s2 s3 s4 hfl
        have hff : (n.pf i : Int) < (N : Int) := by omega
        have htt : (n.pt i : Int) < (N : Int) := by omega
        have hll : (i : Int) < (cs.length : Int) := by omega
        go_wp2_with fail
        have HP := hide (Blk.new wr 47 #[str n.pipes[i].name, .int .i64 (n.pf i : Int), .int .i64 (n.pt i : Int), str n.pipes[i].low, str n.pipes[i].high])
        have u1 := (hx.cell (by rw [block_of_add]; exact l9')).trans u1
        have u2 := (hx.cell (by rw [block_of_add]; exact l9')).trans u2
        have qc := (hx.cell (by rw [block_of_add]; exact lc)).trans qc
        have l9 := Nat.lt_of_lt_of_le l9' hx.size
        have lc := Nat.lt_of_lt_of_le lc hx.size
        clear p0 p1 p2 p3 p4 hb l9'
        have HWR_ := hide (ext HWR.out hx)
        have HO_ := hide (own_below HO.out hx)
        clear HWR HO
        have HWR := HWR_
        have HO := HO_
        clear HWR_ HO_
        generalize wr.alloc (.cells #[str n.pipes[i].name, .int .i64 (n.pf i : Int), .int .i64 (n.pt i : Int), str n.pipes[i].low, str n.pipes[i].high] 47) = WP at HP HWR HO hx u1 u2 qc l9 lc ⊢
        generalize wr.heap.size = q at HP ⊢
        clear hx
        have c1 := HP.out.cell 1
        have c2 := HP.out.cell 2
        have cL := HP.out.lt
        simp only [List.getElem?_toArray, List.getElem?_cons_succ, List.getElem?_cons_zero] at c1 c2
        clear HP
        have c1g := grown_cell cL c1
        have c2g := grown_cell cL c2
        have qcg := grown_acell lc qc
        have u1g := grown_acell l9 u1
        have u2g := grown_acell l9 u2
        refine wp_region_grown_from 1 17 (by kernel_rfl) (by kernel_rfl) ?_ ?_
        · intro _ _ _ _ _ h9; exact h9
        simp only [List.take_succ_cons, List.take_zero, List.drop_succ_cons, List.drop_zero]
        refine wpPure_step (fun K hK => ?_)
        go_simp
        refine hK _ ?_
        clear hK K
        refine wpPure_nil ?_
        repeat (quiet_step (first | (go_at_call 40; exact call_grown (hmi _)) | (go_at_call 39; exact call_grown (htm _))))
        refine wpQuiet_nil ?_
        rintro w9 ⟨t9, rfl⟩
        clear c1g c2g qcg u1g u2g
        have hbB := grown_below WP t9
        have HWR_ := hide (ext HWR.out hbB)
        have HO_ := hide (own_below HO.out hbB)
        clear HWR HO
        have HWR := HWR_
        have HO := HO_
        clear HWR_ HO_
        generalize grown WP t9 = WQ at hbB HWR HO ⊢
        clear t9
        clear c1 c2 cL qc lc u1 u2 l9 hbB hmi htm
        have h1c : ∀ u ∈ [str (fracText (flowAt n cs h i))], u.oneCell' = true := by
          intro u hu
          rw [List.mem_singleton] at hu
          subst hu; rfl
        have hrd := reads_new WQ 28 (str (fracText (flowAt n cs h i)))
        go_wp2_with (at_builtin; refine wpList_append_any _ rfl (.tmp 28) (.tmp 45) _ rfl WN.heap.size 28 i0 _ 1 16 Tryz.underlying27 hi0 hz0 hz1 hz2 rfl (by omega) _ i _ rfl (HO.out.alloc _) _ (some ⟨WQ.heap.size, 0, none⟩) 1 1 _ rfl hrd h1c ?o2 ?o3 ?o4 ?_)
        case o2 => unfold maxLen; omega
        case o3 => omega
        case o4 => have := HWR.out.size; simp; omega
        intro v3 w3 hown3 hgr3 hat3
        have hge := own_ge HO.out
        have hx := ext_alloc WQ (.cells #[str (fracText (flowAt n cs h i))] 28)
        have hwx := ext HWR.out hx
        have HW3 := hide (hwx.grown hgr3 hwx.size (fun k hk => by have := hge k hk; omega))
        have HO3 : Hid (w3.ownsRow WN.heap.size 28 1 v3 (i + 1) ((List.range (i + 1)).map fun i => str (fracText (flowAt n cs h i)))) := by
          rw [range_snoc]
          exact hown3
        clear hown3 hgr3 hat3 hge hx hrd h1c hwx
        go_wp2_with fail
        go_roundw
        case rel => exact ⟨i + 1, by omega, by go_num, HO3, HW3⟩
        case measure => simp [intOf]; omega
      · obtain rfl : i = k1 := by have := HK1.out; omega
        go_wp2_with fail
        go_ret2
        obtain ⟨A8, c8, hv8, _, _⟩ := own_reads1 HO.out
        have ho8 := HO.out
        rw [hv8, HK1.out] at ho8
        rw [hv8, HK1.out]
        exact ⟨ext HW.out HWR.out, A8, c8, rfl, h, HIS.out, WN.heap.size, HW.out.size, ho8⟩
theorem anyIdx_texts (gs : List (List UInt8)) : anyIdx gs.length (fun k => !(readFrac (gs.getD k [])).isSome) = decide (∃ g ∈ gs, (readFrac g).isSome = false) := by
  rw [Bool.eq_iff_iff, anyIdx_iff, decide_eq_true_iff]
  constructor
  · rintro ⟨k, hk, h⟩
    refine ⟨gs[k], List.getElem_mem hk, ?_⟩
    simpa [List.getD, List.getElem?_eq_getElem hk] using h
  · rintro ⟨g, hg, h⟩
    obtain ⟨k, hk, rfl⟩ := List.mem_iff_getElem.1 hg
    exact ⟨k, hk, by simpa [List.getD, List.getElem?_eq_getElem hk] using h⟩
theorem texts_map (N : Nat) (h : Nat → Rat) : (row N fun k => str (fracText (h k))) = ((List.range N).map fun k => fracText (h k)).map str := by
  unfold row; rw [List.map_map]; rfl
end Go.Proofs.YtdecgcdkaaiglaaGreat
namespace Go.Proofs.YtdecgcdkaaiglaaGreat
open Go.RowKit Go.Deep
theorem level_none {l : List Level} {k : Nat} (h : ∀ i (hi : i < l.length), l[i].node ≠ (k : Int)) : Net.at_ l k = none := by
  unfold Net.at_
  have : l.find? (fun v => v.node == (k : Int)) = none := by
    rw [List.find?_eq_none]
    intro v hv
    obtain ⟨j, hj, rfl⟩ := List.mem_iff_getElem.1 hv
    simpa using h j hj
  rw [this]; rfl
theorem allOf_true {N k : Nat} (hk : k < N) : allOf N k = true := by
  unfold allOf
  simp [List.getD, hk]
theorem NetHeads.free {n : Net} {cs : List (List UInt8)} {h : Nat → Rat} (hh : NetHeads n cs h) {k : Nat} (hk : k < n.nodes.length) (he : ∀ i (hi : i < n.heads.length), n.heads[i].node ≠ (k : Int)) :
    (Net.at_ n.wells k).getD 0 + flowTo n.pipes.length n.pf n.pt (condOf cs) h k = 0 := by
  have h3 := hh k hk
  rw [level_none he] at h3
  simp only at h3
  rw [if_pos (allOf_true hk)] at h3
  rw [h3]; grind
theorem NetHeads.same {n : Net} {cs : List (List UInt8)} {g h : Nat → Rat} (hG : Given n.nodes.length n.pipes.length n.pf n.pt (condOf cs) (Net.at_ n.heads) (fun k => (Net.at_ n.wells k).getD 0) (allOf n.nodes.length))
    (hg : NetHeads n cs g) (hh : NetHeads n cs h) : ∀ k, k < n.nodes.length → g k = h k := IsHeads.unique hG.piped hG.tied hg hh
/-- Values in a row of memory. -/
def RowT (w : World) (A : Option Addr) (N : Nat) (f : Nat → Value) : Prop := Reads w w.heap.size 1 A N (row N f)
theorem RowT.below {w w' : World} {A : Option Addr} {N : Nat} {f : Nat → Value} (h : RowT w A N f) (hb : Below w.heap.size w w') : RowT w' A N f := (Reads.below h hb).more hb.size
theorem RowT.at_ {w : World} {A : Option Addr} {N : Nat} {f : Nat → Value} (h : RowT w A N f) {i : Nat} (hi : i < N) : ∃ ad, A = some ad ∧ ad.block < w.heap.size ∧ ∀ j, j < N → w.cell? (ad.add j) = some (f j) := row_at h hi
theorem RowT.congr {w : World} {A : Option Addr} {N : Nat} {f g : Nat → Value} (h : RowT w A N f) (he : ∀ i, i < N → f i = g i) : RowT w A N g := by
  unfold RowT at h ⊢
  have e : row N g = row N f := by
    unfold row
    apply List.map_congr_left
    intro i hi
    exact (he i (List.mem_range.1 hi)).symm
  rw [e]; exact h
def headTexts (N : Nat) (h : Nat → Rat) : List (List UInt8) := (List.range N).map fun k => fracText (h k)
theorem headTexts_length (N : Nat) (h : Nat → Rat) : (headTexts N h).length = N := by simp [headTexts]
theorem RowT.reads {w : World} {A : Option Addr} {N : Nat} {h : Nat → Rat} (hr : RowT w A N fun k => str (fracText (h k))) : Reads w w.heap.size 1 A (headTexts N h).length ((headTexts N h).map str) := by
  unfold RowT at hr
  rw [headTexts_length]
  unfold headTexts
  rw [← texts_map]; exact hr
theorem RowT.nodes {w : World} {A : Option Addr} {N : Nat} {h : Nat → Rat} (hr : RowT w A N fun k => str (fracText (h k))) (hs : ∀ k, k < N → Short 50000 (h k)) (hN : N ≤ 1000) : NodesIs w (.slice A N N) (headTexts N h) := by
  refine ⟨A, N, by rw [headTexts_length], by rw [headTexts_length]; exact Nat.le_refl _, by unfold maxLen; omega, by rw [headTexts_length]; exact hN, hr.reads, fun x hx => ?_⟩
  unfold headTexts at hx
  obtain ⟨k, hk, rfl⟩ := List.mem_map.1 hx
  exact frac_small (hs k (List.mem_range.1 hk))
theorem not_great {n : Net} (hg : isGreat n = false) (h : n.err = 0) : n.nodes.length ≤ 6 ∧ n.pipes.length ≤ 9 := by
  unfold isGreat at hg
  rw [decide_eq_false_iff_not] at hg
  obtain ⟨h5, _⟩ := Net.err_zero h
  have h1 := h5.1.1.1.1
  have h3 := h5.1.1.2.1
  unfold Net.P1 at h1
  omega
theorem not_wide {x : Ask} (h : isWide x = false) : isLong x.cond = false ∧ isLong x.heads = false ∧ isLong x.flows = false ∧ isLong1 [x.first, x.second] = false := by
  unfold isWide at h
  simp only [Bool.or_eq_false_iff] at h
  exact ⟨h.1.1.1.1.1.1, h.1.1.1.1.1.2, h.1.1.1.1.2, h.1.1.1.2⟩
end Go.Proofs.YtdecgcdkaaiglaaGreat
namespace Go.Proofs.YtdecgcdkaaiglaaGreat
open Go.RowKit Go.Deep
attribute [local go_sem ↓] Go.wp_at_zero Go.wp_at_succ
theorem reads_one (w : World) (t : TypeId) (a : Value) : Reads (w.alloc (.cells #[a] t)) (w.alloc (.cells #[a] t)).heap.size 1 (some ⟨w.heap.size, 0, none⟩) 1 [a] :=
  reads_blk (size := 1) (n := 1) (Blk.new w t ([a] : List Value).toArray) rfl
open Classical in
/-- the error of two nodes -/
noncomputable def endErr (n : Net) (a b : Int) : Int :=
  if a < 0 ∨ (n.nodes.length : Int) ≤ a ∨ b < 0 ∨ (n.nodes.length : Int) ≤ b then 7 else if a = b then 1 else if Joined n.pipes.length n.pf n.pt (fun k => (k : Int) ∈ [a]) b.toNat then 0 else 9
set_option maxRecDepth 100000 in
set_option maxHeartbeats 4000000 in
theorem water_ends (vn : Value) (n : Net) (a b : Int) (w : World) (hn : NetIs w vn n) (h0 : n.err = 0) : Calls Tryz.prog 35 #[vn, .int .i64 a, .int .i64 b] w (RetB w (.int .i64 (endErr n a b))) := by
  have hj := fun w' (h : Below w.heap.size w w') A (hr : Reads w' w'.heap.size 1 A 1 [.int .i64 a]) (ha : 0 ≤ a ∧ a < n.nodes.length) => water_joined vn (.slice A 1 1) n [a] w' (hn.below h) ⟨A, 1, rfl, by simp, by unfold maxLen; omega, by simp, hr⟩ (Net.err_zero h0).1.1.1.ends (by omega) (fun z hz => by simp at hz; subst hz; exact ha)
  have HJ := hide hj
  obtain ⟨r, HR⟩ : ∃ r, Hid (endErr n a b = r) := ⟨_, hide rfl⟩
  rw [HR.out]
  unfold endErr at HR
  obtain ⟨A0, k0, c0, A1, k1, c1, A2, k2, c2, A3, k3, c3, rfl, hn0, hn1, hn2, hn3⟩ := hn
  have hk0 : k0 = n.nodes.length := by obtain ⟨A', c', e, _⟩ := hn0; injection e
  have hk1000 : k0 ≤ 1000 := by obtain ⟨A', c', e, _, _, h6, _⟩ := hn0; omega
  rw [← hk0] at HJ HR
  have HK0 := hide hk0
  clear hn0 hn1 hn2 hn3 hk0 hj h0
  have HW := hide (ext_alloc w (.cells #[.slice A0 k0 c0, .slice A1 k1 c1, .slice A2 k2 c2, .slice A3 k3 c3] 26))
  have HK := hide (Blk.new w 26 #[.slice A0 k0 c0, .slice A1 k1 c1, .slice A2 k2 c2, .slice A3 k3 c3])
  have r0 := HK.out.cell 0
  have r1 := HK.out.cell 1
  have r2 := HK.out.cell 2
  have r3 := HK.out.cell 3
  have rL := HK.out.lt
  simp at r0 r1 r2 r3
  by_cases g : a < 0 ∨ (k0 : Int) ≤ a ∨ b < 0 ∨ (k0 : Int) ≤ b
  · have HF : Hid (r = 7) := hide (by have := HR.out; rw [if_pos g] at this; exact this.symm)
    clear HR HJ
    by_cases g1 : a < 0
    · clear g
      go_enter Tryz.func35, Tryz.ntmps35
      go_wp2_with fail
      go_ret
      exact ⟨ret_i64' HF.out, HW.out⟩
    · by_cases g2 : (k0 : Int) ≤ a
      · clear g
        go_enter Tryz.func35, Tryz.ntmps35
        go_wp2_with fail
        go_ret
        exact ⟨ret_i64' HF.out, HW.out⟩
      · by_cases g3 : b < 0
        · clear g
          go_enter Tryz.func35, Tryz.ntmps35
          go_wp2_with fail
          go_ret
          exact ⟨ret_i64' HF.out, HW.out⟩
        · have g4 : (k0 : Int) ≤ b := by omega
          clear g
          go_enter Tryz.func35, Tryz.ntmps35
          go_wp2_with fail
          go_ret
          exact ⟨ret_i64' HF.out, HW.out⟩
  · have g1 : ¬ a < 0 := by omega
    have g2 : ¬ (k0 : Int) ≤ a := by omega
    have g3 : ¬ b < 0 := by omega
    have g4 : ¬ (k0 : Int) ≤ b := by omega
    have HR2 := HR.out
    rw [if_neg g] at HR2
    clear g HR
    by_cases hab : a = b
    · have HF : Hid (r = 1) := hide (by rw [if_pos hab] at HR2; exact HR2.symm)
      have hI : (a == b) = true := by rw [beq_iff_eq]; exact hab
      clear hab HR2 HJ
      go_enter Tryz.func35, Tryz.ntmps35
      go_wp2_with fail
      go_ret
      exact ⟨ret_i64' HF.out, HW.out⟩
    · have hI : (a == b) = false := by rw [beq_eq_false_iff_ne]; exact hab
      rw [if_neg hab] at HR2
      have HR3 := hide HR2
      have hb0 : 0 ≤ b := by omega
      have hbk : b < (k0 : Int) := by omega
      clear hab HR2
      go_enter Tryz.func35, Tryz.ntmps35
      go_wp2_with fail
      have hx := ext_alloc (w.alloc (.cells #[.slice A0 k0 c0, .slice A1 k1 c1, .slice A2 k2 c2, .slice A3 k3 c3] 26)) (.cells #[.int .i64 a] 3)
      have hrd := reads_one (w.alloc (.cells #[.slice A0 k0 c0, .slice A1 k1 c1, .slice A2 k2 c2, .slice A3 k3 c3] 26)) 3 (.int .i64 a)
      have e1 : (w.alloc (.cells #[.slice A0 k0 c0, .slice A1 k1 c1, .slice A2 k2 c2, .slice A3 k3 c3] 26)).heap.size = w.heap.size + 1 := World.size_alloc _ _
      rw [e1] at hrd
      clear e1
      have HK_ := hide (HK.out.below hx HK.out.lt)
      have HW_ := hide (ext HW.out hx)
      clear HK HW
      have HK := HK_
      have HW := HW_
      clear HK_ HW_
      refine (HJ.out _ HW.out _ hrd ⟨by omega, by omega⟩).mono ?_
      rintro e WN ⟨v, l, rfl, ⟨Al, cl, rfl, hl1, hl2, hlr⟩, hm, hbB⟩
      have hlen : l.length = k0 := by rw [hm.len, HK0.out]
      have hbn : b.toNat < l.length := by omega
      obtain ⟨ad, ea, lb, hc⟩ := hlr.2 (by omega)
      have hcb := hc b.toNat (.bool l[b.toNat]) (by simp [bools, hbn])
      subst ea
      have hbi : ((b.toNat : Nat) : Int) = b := by omega
      have hbl : b < (l.length : Int) := by omega
      have hbl' : ((b.toNat : Nat) : Int) < (l.length : Int) := by omega
      have hiff := hm.iff b.toNat
      rw [List.getElem?_eq_getElem hbn] at hiff
      generalize l[b.toNat] = x at hcb hiff
      clear r0 r1 r2 r3 rL hx hrd
      have HK_ := hide (HK.out.below hbB HK.out.lt)
      have HW_ := hide (ext HW.out hbB)
      clear HK HW
      have HK := HK_
      have HW := HW_
      clear HK_ HW_
      clear hbB hm hlr hc HJ
      cases x with
      | true =>
        have HF : Hid (r = 0) := hide (by have := HR3.out; rw [if_pos (hiff.1 rfl)] at this; exact this.symm)
        clear HR3 hiff
        go_wp2_with fail
        go_ret
        exact ⟨ret_i64' HF.out, HW.out⟩
      | false =>
        have HF : Hid (r = 9) := hide (by have := HR3.out; rw [if_neg (fun h => by have := hiff.2 h; cases this)] at this; exact this.symm)
        clear HR3 hiff
        go_wp2_with fail
        go_ret
        exact ⟨ret_i64' HF.out, HW.out⟩
end Go.Proofs.YtdecgcdkaaiglaaGreat
