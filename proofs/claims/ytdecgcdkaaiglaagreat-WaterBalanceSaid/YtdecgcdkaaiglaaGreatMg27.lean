/- The walk of WaterBalance. -/
import Derived.Below
import Derived.BigQuiet
import Derived.BigRegion
import Derived.Deep.AppendLies
import Derived.Deep.Cut
import Derived.Deep.CutBlock
import Derived.Deep.DeepCutAuto
import Derived.Deep.DeepMust
import Derived.Deep.DrawnRows
import Derived.Deep.Draws
import Derived.Deep.LoopGhost
import Derived.Deep.MidRow
import Derived.Deep.OwnRows
import Derived.Deep.Quiet
import Derived.Deep.QuietTactic
import Derived.Deep.RegionHeld3
import Derived.Deep.RegionLawGrows
import Derived.Deep.RegionWith
import Derived.IntWalk
import Derived.Laws.BitsAllLaws
import Derived.Laws.MathBits
import Derived.Laws.OwnMore
import Derived.Laws.Rows
import Derived.Lib.BitFns
import Derived.Lib.Bytealg
import Derived.Lib.Index
import Derived.Lib.Slices
import Derived.Lib.Small
import Derived.Lib.Strings
import Derived.Lib.Walk
import Derived.LoopN
import Derived.Maps.AppendAt
import Derived.OwnWalk
import Derived.RegionTactic
import Derived.Scope
import Derived.StillTail
import Derived.StillTailTactics
import Derived.WalkKit
import Derived.WalkLawsBesides
import Derived.WalkMore
import Derived.WalkSpells
import Init.Data.List.Lemmas
import Derived.Test.YtdecgcdkaaiglaaGreatMg25
set_option linter.unusedVariables false
set_option linter.unusedSimpArgs false
namespace Go.Proofs.YtdecgcdkaaiglaaGreat
open Go.RowKit Go.Deep
attribute [local go_sem ↓] Go.wp_at_zero Go.wp_at_succ
/-- a loop that counts -/
def IdxR (K : Nat) (W : World) (iv : Value) (wr : World) : Prop := ∃ i : Nat, i ≤ K ∧ iv = .int .i64 i ∧ Hid (Below W.heap.size W wr)
/-- a loop that counts, no error so far -/
def IdxE (K : Nat) (W : World) (ev iv : Value) (wr : World) : Prop := ∃ i : Nat, i ≤ K ∧ iv = .int .i64 i ∧ ev = .int .i64 0 ∧ Hid (Below W.heap.size W wr)
/-- is a node fixed by one of the first levels? -/
def BFixR (l : List Level) (k : Nat) (W : World) (fv iv : Value) (wr : World) : Prop :=
  ∃ (i : Nat) (b : Bool), i ≤ l.length ∧ iv = .int .i64 i ∧ fv = .bool b ∧ Hid (b = true ↔ ∃ j, ∃ hj : j < l.length, j < i ∧ l[j].node = (k : Int)) ∧ Hid (Below W.heap.size W wr)
/-- what the first wells take out -/
def BWelR (l : List Level) (k : Nat) (q : Rat) (W : World) (sv iv : Value) (wr : World) : Prop :=
  ∃ (i : Nat) (s : List UInt8), i ≤ l.length ∧ iv = .int .i64 i ∧ sv = str s ∧ Hid (SmallS s) ∧ Hid ((s = [48] ∧ ∀ j (hj : j < l.length), j < i → l[j].node ≠ (k : Int)) ∨ s = fracText q) ∧ Hid (Below W.heap.size W wr)
/-- the flows so far -/
def SumR (np : Nat) (f : Nat → Rat) (W : World) (ev sv iv : Value) (wr : World) : Prop :=
  ∃ i : Nat, i ≤ np ∧ iv = .int .i64 i ∧ ev = .int .i64 0 ∧ sv = str (fracText (f i)) ∧ Hid (Below W.heap.size W wr)
theorem not_great {n : Net} (hg : isGreat n = false) (h : n.err = 0) : n.nodes.length ≤ 6 ∧ n.pipes.length ≤ 9 := by
  unfold isGreat at hg
  rw [decide_eq_false_iff_not] at hg
  obtain ⟨h5, _⟩ := Net.err_zero h
  have h1 := h5.1.1.1.1
  have h3 := h5.1.1.2.1
  unfold Net.P1 at h1
  omega
theorem not_wide {x : Ask} (h : isWide x = false) : isLong x.cond = false ∧ isLong x.heads = false ∧ isLong x.flows = false ∧ isLong1 [x.first, x.second] = false := by
  unfold isWide at h
  simp only [Bool.or_eq_false_iff] at h
  exact ⟨h.1.1.1.1.1.1, h.1.1.1.1.1.2, h.1.1.1.1.2, h.1.1.1.2⟩
set_option maxRecDepth 100000 in
set_option maxHeartbeats 32000000 in
theorem law_balance (v va : Value) (n : Net) (x : Ask) (w : World) (hn : NetWide w v n) (hx : AskWide w va x) : Calls Tryz.prog 5 #[v, va] w (RetB w (.bool true)) := by
  have hgr := fun w' (h : Below w.heap.size w w') => law_great v n w' (hn.below h)
  have hwi := fun w' (h : Below w.heap.size w w') => law_wide va x w' (hx.below h)
  cases hg : isGreat n with
  | true =>
    rw [hg] at hgr
    obtain ⟨A0, c0, A1, c1, A2, c2, A3, c3, rfl, _⟩ := hn
    obtain ⟨B0, d0, B1, d1, B2, d2, B3, d3, B4, d4, rfl, _⟩ := hx
    clear hg hwi
    have HW := hide (ext (ext_alloc w (.cells #[.slice A0 n.nodes.length c0, .slice A1 n.pipes.length c1, .slice A2 n.heads.length c2, .slice A3 n.wells.length c3] 26)) (ext_alloc _ (.cells #[.slice B0 x.cond.length d0, .slice B1 x.heads.length d1, .slice B2 x.flows.length d2, .int .i64 x.node, .int .i64 x.pipe, .int .i64 x.a, .int .i64 x.b, str x.first, str x.second, .slice B3 x.wells.length d3, .slice B4 x.limits.length d4] 31)))
    go_enter Tryz.func5, Tryz.ntmps5
    go_wp2_with fail
    refine (hgr _ HW.out).mono ?_
    rintro e WN ⟨rfl, hbB⟩
    have HW_ := hide (ext HW.out hbB)
    clear HW
    have HW := HW_
    clear HW_
    clear hbB
    go_wp2_with fail
    refine (law_lives _).mono ?_
    rintro e WN ⟨rfl, hbB⟩
    have HW_ := hide (ext HW.out hbB)
    clear HW
    have HW := HW_
    clear HW_
    clear hbB
    go_wp2_with fail
    go_ret
    exact ⟨rfl, HW.out⟩
  | false =>
    rw [hg] at hgr
    have hni := hn.small hg
    cases hw : isWide x with
    | true =>
      rw [hw] at hwi
      obtain ⟨A0, c0, A1, c1, A2, c2, A3, c3, rfl, _⟩ := hn
      obtain ⟨B0, d0, B1, d1, B2, d2, B3, d3, B4, d4, rfl, _⟩ := hx
      clear hg hni hw
      have HW := hide (ext (ext_alloc w (.cells #[.slice A0 n.nodes.length c0, .slice A1 n.pipes.length c1, .slice A2 n.heads.length c2, .slice A3 n.wells.length c3] 26)) (ext_alloc _ (.cells #[.slice B0 x.cond.length d0, .slice B1 x.heads.length d1, .slice B2 x.flows.length d2, .int .i64 x.node, .int .i64 x.pipe, .int .i64 x.a, .int .i64 x.b, str x.first, str x.second, .slice B3 x.wells.length d3, .slice B4 x.limits.length d4] 31)))
      have HA : Hid (Blk ((w.alloc (.cells #[.slice A0 n.nodes.length c0, .slice A1 n.pipes.length c1, .slice A2 n.heads.length c2, .slice A3 n.wells.length c3] 26)).alloc (.cells #[.slice B0 x.cond.length d0, .slice B1 x.heads.length d1, .slice B2 x.flows.length d2, .int .i64 x.node, .int .i64 x.pipe, .int .i64 x.a, .int .i64 x.b, str x.first, str x.second, .slice B3 x.wells.length d3, .slice B4 x.limits.length d4] 31)) (w.heap.size + 1) 31 #[.slice B0 x.cond.length d0, .slice B1 x.heads.length d1, .slice B2 x.flows.length d2, .int .i64 x.node, .int .i64 x.pipe, .int .i64 x.a, .int .i64 x.b, str x.first, str x.second, .slice B3 x.wells.length d3, .slice B4 x.limits.length d4]) := hide (by
        have h := Blk.new (w.alloc (.cells #[.slice A0 n.nodes.length c0, .slice A1 n.pipes.length c1, .slice A2 n.heads.length c2, .slice A3 n.wells.length c3] 26)) 31 #[.slice B0 x.cond.length d0, .slice B1 x.heads.length d1, .slice B2 x.flows.length d2, .int .i64 x.node, .int .i64 x.pipe, .int .i64 x.a, .int .i64 x.b, str x.first, str x.second, .slice B3 x.wells.length d3, .slice B4 x.limits.length d4]
        simp only [World.size_alloc] at h
        exact h)
      go_enter Tryz.func5, Tryz.ntmps5
      go_wp2_with fail
      refine (hgr _ HW.out).mono ?_
      rintro e WN ⟨rfl, hbB⟩
      try clear q0 q1 q2 q3 q4 q5 q6 q7 q8 q9 q10 qL
      have HA_ := hide (HA.out.below hbB HA.out.lt)
      have HW_ := hide (ext HW.out hbB)
      clear HA HW
      have HA := HA_
      have HW := HW_
      clear HA_ HW_
      clear hbB
      have q0 := HA.out.cell 0
      have q1 := HA.out.cell 1
      have q2 := HA.out.cell 2
      have q3 := HA.out.cell 3
      have q4 := HA.out.cell 4
      have q5 := HA.out.cell 5
      have q6 := HA.out.cell 6
      have q7 := HA.out.cell 7
      have q8 := HA.out.cell 8
      have q9 := HA.out.cell 9
      have q10 := HA.out.cell 10
      have qL := HA.out.lt
      simp at q0 q1 q2 q3 q4 q5 q6 q7 q8 q9 q10
      go_wp2_with fail
      refine (hwi _ HW.out).mono ?_
      rintro e WN ⟨rfl, hbB⟩
      try clear q0 q1 q2 q3 q4 q5 q6 q7 q8 q9 q10 qL
      have HA_ := hide (HA.out.below hbB HA.out.lt)
      have HW_ := hide (ext HW.out hbB)
      clear HA HW
      have HA := HA_
      have HW := HW_
      clear HA_ HW_
      clear hbB
      have q0 := HA.out.cell 0
      have q1 := HA.out.cell 1
      have q2 := HA.out.cell 2
      have q3 := HA.out.cell 3
      have q4 := HA.out.cell 4
      have q5 := HA.out.cell 5
      have q6 := HA.out.cell 6
      have q7 := HA.out.cell 7
      have q8 := HA.out.cell 8
      have q9 := HA.out.cell 9
      have q10 := HA.out.cell 10
      have qL := HA.out.lt
      simp at q0 q1 q2 q3 q4 q5 q6 q7 q8 q9 q10
      go_wp2_with fail
      refine (law_lives _).mono ?_
      rintro e WN ⟨rfl, hbB⟩
      try clear q0 q1 q2 q3 q4 q5 q6 q7 q8 q9 q10 qL
      have HA_ := hide (HA.out.below hbB HA.out.lt)
      have HW_ := hide (ext HW.out hbB)
      clear HA HW
      have HA := HA_
      have HW := HW_
      clear HA_ HW_
      clear hbB
      have q0 := HA.out.cell 0
      have q1 := HA.out.cell 1
      have q2 := HA.out.cell 2
      have q3 := HA.out.cell 3
      have q4 := HA.out.cell 4
      have q5 := HA.out.cell 5
      have q6 := HA.out.cell 6
      have q7 := HA.out.cell 7
      have q8 := HA.out.cell 8
      have q9 := HA.out.cell 9
      have q10 := HA.out.cell 10
      have qL := HA.out.lt
      simp at q0 q1 q2 q3 q4 q5 q6 q7 q8 q9 q10
      go_wp2_with fail
      go_ret
      exact ⟨rfl, HW.out⟩
    | false =>
      rw [hw] at hwi
      have hsz := not_great hg
      obtain ⟨hl0, hl1, hl2, _⟩ := not_wide hw
      have hfz := fun w' (hb : Below w.heap.size w w') => hni.below hb
      obtain ⟨B0, d0, B1, d1, B2, d2, B3, d3, B4, d4, rfl, t0, t1, t2, _⟩ := hx
      have hc0 := t0.small hl0
      have hc1 := t1.small hl1
      clear t0 t1 t2 hl0 hl1 hl2 hn
      obtain ⟨m0, e0⟩ : ∃ m, m = x.cond.length := ⟨_, rfl⟩
      obtain ⟨m1, e1⟩ : ∃ m, m = x.heads.length := ⟨_, rfl⟩
      rw [← e0] at hc0 hwi ⊢
      rw [← e1] at hc1 hwi ⊢
      have HM0 := hide e0
      have HM1 := hide e1
      clear e0 e1
      generalize x.flows.length = m2 at hwi ⊢
      generalize x.node = z3 at hwi ⊢
      generalize x.pipe = z4 at hwi ⊢
      generalize x.a = z5 at hwi ⊢
      generalize x.b = z6 at hwi ⊢
      generalize x.first = s7 at hwi ⊢
      generalize x.second = s8 at hwi ⊢
      generalize x.wells.length = m9 at hwi ⊢
      generalize x.limits.length = m10 at hwi ⊢
      generalize hcs : x.cond = cs at hc0 HM0
      generalize hgs : x.heads = gs at hc1 HM1
      clear hcs hgs hw hg
      have hh := fun w' (hb : Below w.heap.size w w') => water_Heads v (.slice B0 m0 d0) n cs w' (hfz w' hb) (hc0.below hb) hsz
      have hf := fun w' (hb : Below w.heap.size w w') => water_Flows v (.slice B0 m0 d0) n cs w' (hfz w' hb) (hc0.below hb) hsz
      have hb1 := fun w' (hb : Below w.heap.size w w') vg gs (hg : NodesIs w' vg gs) => water_Balanced v (.slice B0 m0 d0) vg n cs gs w' (hfz w' hb) (hc0.below hb) hg hsz
      have hc1b := fun w' (hb : Below w.heap.size w w') => hc1.below hb
      have HSZ := hide hsz
      have HC0 := hide hc0
      have HC1 := hide hc1
      obtain ⟨A0, k0, c0, A1, k1, c1, A2, k2, c2, A3, k3, c3, rfl, hn0, hn1, hn2, hn3⟩ := hni
      have hk0 : k0 = n.nodes.length := by obtain ⟨A', c', e, _⟩ := hn0; injection e
      have hk1 : k1 = n.pipes.length := by obtain ⟨A', c', e, _⟩ := hn1; injection e
      have hk2 : k2 = n.heads.length := by obtain ⟨A', c', e, _⟩ := hn2; injection e
      have hk3 : k3 = n.wells.length := by obtain ⟨A', c', e, _⟩ := hn3; injection e
      have hk2b : k2 ≤ 1000 := by obtain ⟨A', c', e, _, _, h6, _⟩ := hn2; omega
      have hk3b : k3 ≤ 1000 := by obtain ⟨A', c', e, _, _, h6, _⟩ := hn3; omega
      have HK0 := hide hk0
      have HK1 := hide hk1
      have HK2 := hide hk2
      have HK3 := hide hk3
      have HN1 := hide hn1
      have HN2 := hide hn2
      have HN3 := hide hn3
      clear hn0 hn1 hn2 hn3 hc0 hc1 hsz hfz hk0 hk1 hk2 hk3
      have HW := hide (ext (ext_alloc w (.cells #[.slice A0 k0 c0, .slice A1 k1 c1, .slice A2 k2 c2, .slice A3 k3 c3] 26)) (ext_alloc _ (.cells #[.slice B0 m0 d0, .slice B1 m1 d1, .slice B2 m2 d2, .int .i64 z3, .int .i64 z4, .int .i64 z5, .int .i64 z6, str s7, str s8, .slice B3 m9 d3, .slice B4 m10 d4] 31)))
      have HK : Hid (Blk ((w.alloc (.cells #[.slice A0 k0 c0, .slice A1 k1 c1, .slice A2 k2 c2, .slice A3 k3 c3] 26)).alloc (.cells #[.slice B0 m0 d0, .slice B1 m1 d1, .slice B2 m2 d2, .int .i64 z3, .int .i64 z4, .int .i64 z5, .int .i64 z6, str s7, str s8, .slice B3 m9 d3, .slice B4 m10 d4] 31)) w.heap.size 26 #[.slice A0 k0 c0, .slice A1 k1 c1, .slice A2 k2 c2, .slice A3 k3 c3]) := hide ((Blk.new w 26 #[.slice A0 k0 c0, .slice A1 k1 c1, .slice A2 k2 c2, .slice A3 k3 c3]).alloc _)
      have HA : Hid (Blk ((w.alloc (.cells #[.slice A0 k0 c0, .slice A1 k1 c1, .slice A2 k2 c2, .slice A3 k3 c3] 26)).alloc (.cells #[.slice B0 m0 d0, .slice B1 m1 d1, .slice B2 m2 d2, .int .i64 z3, .int .i64 z4, .int .i64 z5, .int .i64 z6, str s7, str s8, .slice B3 m9 d3, .slice B4 m10 d4] 31)) (w.heap.size + 1) 31 #[.slice B0 m0 d0, .slice B1 m1 d1, .slice B2 m2 d2, .int .i64 z3, .int .i64 z4, .int .i64 z5, .int .i64 z6, str s7, str s8, .slice B3 m9 d3, .slice B4 m10 d4]) := hide (by
        have h := Blk.new (w.alloc (.cells #[.slice A0 k0 c0, .slice A1 k1 c1, .slice A2 k2 c2, .slice A3 k3 c3] 26)) 31 #[.slice B0 m0 d0, .slice B1 m1 d1, .slice B2 m2 d2, .int .i64 z3, .int .i64 z4, .int .i64 z5, .int .i64 z6, str s7, str s8, .slice B3 m9 d3, .slice B4 m10 d4]
        simp only [World.size_alloc] at h
        exact h)
      have HH := hide hh
      have HFL := hide hf
      have HB1 := hide hb1
      have HC1B := hide hc1b
      clear hh hf hb1 hc1b
      go_enter Tryz.func5, Tryz.ntmps5
      go_wp2_with fail
      refine (hgr _ HW.out).mono ?_
      rintro e WN ⟨rfl, hbB⟩
      try clear r0 r1 r2 r3 rL q0 q1 q2 q3 q4 q5 q6 q7 q8 q9 q10 qL
      have HK_ := hide (HK.out.below hbB HK.out.lt)
      have HA_ := hide (HA.out.below hbB HA.out.lt)
      have HW_ := hide (ext HW.out hbB)
      clear HK HA HW
      have HK := HK_
      have HA := HA_
      have HW := HW_
      clear HK_ HA_ HW_
      clear hbB
      have r0 := HK.out.cell 0
      have r1 := HK.out.cell 1
      have r2 := HK.out.cell 2
      have r3 := HK.out.cell 3
      have rL := HK.out.lt
      have q0 := HA.out.cell 0
      have q1 := HA.out.cell 1
      have q2 := HA.out.cell 2
      have q3 := HA.out.cell 3
      have q4 := HA.out.cell 4
      have q5 := HA.out.cell 5
      have q6 := HA.out.cell 6
      have q7 := HA.out.cell 7
      have q8 := HA.out.cell 8
      have q9 := HA.out.cell 9
      have q10 := HA.out.cell 10
      have qL := HA.out.lt
      simp at r0 r1 r2 r3 q0 q1 q2 q3 q4 q5 q6 q7 q8 q9 q10
      clear hgr
      go_wp2_with fail
      refine (hwi _ HW.out).mono ?_
      rintro e WN ⟨rfl, hbB⟩
      try clear r0 r1 r2 r3 rL q0 q1 q2 q3 q4 q5 q6 q7 q8 q9 q10 qL
      have HK_ := hide (HK.out.below hbB HK.out.lt)
      have HA_ := hide (HA.out.below hbB HA.out.lt)
      have HW_ := hide (ext HW.out hbB)
      clear HK HA HW
      have HK := HK_
      have HA := HA_
      have HW := HW_
      clear HK_ HA_ HW_
      clear hbB
      have r0 := HK.out.cell 0
      have r1 := HK.out.cell 1
      have r2 := HK.out.cell 2
      have r3 := HK.out.cell 3
      have rL := HK.out.lt
      have q0 := HA.out.cell 0
      have q1 := HA.out.cell 1
      have q2 := HA.out.cell 2
      have q3 := HA.out.cell 3
      have q4 := HA.out.cell 4
      have q5 := HA.out.cell 5
      have q6 := HA.out.cell 6
      have q7 := HA.out.cell 7
      have q8 := HA.out.cell 8
      have q9 := HA.out.cell 9
      have q10 := HA.out.cell 10
      have qL := HA.out.lt
      simp at r0 r1 r2 r3 q0 q1 q2 q3 q4 q5 q6 q7 q8 q9 q10
      clear hwi
      go_wp2_with fail
      have hh := HH.out _ HW.out
      obtain ⟨y, HY⟩ : ∃ y, Hid (askErr n cs = y) := ⟨_, hide rfl⟩
      unfold RetHeads at hh
      rw [HY.out] at hh
      refine hh.mono ?_
      rintro e WH ⟨hbB, ⟨h0, rfl⟩ | ⟨h0, A9, cap9, h, rfl, hcap, hIs, hdz, hrd⟩⟩
      · have hI : (y != 0) = true := by rw [bne_iff_ne]; exact h0
        have hI2 : (y == y) = true := by simp
        clear r0 r1 r2 r3 rL q0 q1 q2 q3 q4 q5 q6 q7 q8 q9 q10 qL hh
        have HK_ := hide (HK.out.below hbB HK.out.lt)
        have HA_ := hide (HA.out.below hbB HA.out.lt)
        have HW_ := hide (ext HW.out hbB)
        clear HK HA HW
        have HK := HK_
        have HA := HA_
        have HW := HW_
        clear HK_ HA_ HW_
        clear hbB
        have r0 := HK.out.cell 0
        have r1 := HK.out.cell 1
        have r2 := HK.out.cell 2
        have r3 := HK.out.cell 3
        have rL := HK.out.lt
        have q0 := HA.out.cell 0
        have q1 := HA.out.cell 1
        have q2 := HA.out.cell 2
        have q3 := HA.out.cell 3
        have q4 := HA.out.cell 4
        have q5 := HA.out.cell 5
        have q6 := HA.out.cell 6
        have q7 := HA.out.cell 7
        have q8 := HA.out.cell 8
        have q9 := HA.out.cell 9
        have q10 := HA.out.cell 10
        have qL := HA.out.lt
        simp at r0 r1 r2 r3 q0 q1 q2 q3 q4 q5 q6 q7 q8 q9 q10
        go_wp2_with fail
        have hh := HFL.out _ HW.out
        unfold RetFlows at hh
        rw [HY.out] at hh
        refine hh.mono ?_
        rintro e WF ⟨hbB, ⟨h1, rfl⟩ | ⟨h1, _⟩⟩
        · clear r0 r1 r2 r3 rL q0 q1 q2 q3 q4 q5 q6 q7 q8 q9 q10 qL hh
          have HK_ := hide (HK.out.below hbB HK.out.lt)
          have HA_ := hide (HA.out.below hbB HA.out.lt)
          have HW_ := hide (ext HW.out hbB)
          clear HK HA HW
          have HK := HK_
          have HA := HA_
          have HW := HW_
          clear HK_ HA_ HW_
          clear hbB h0 h1
          go_wp2_with fail
          refine (law_lives _).mono ?_
          rintro e WN ⟨rfl, hbB⟩
          try clear r0 r1 r2 r3 rL q0 q1 q2 q3 q4 q5 q6 q7 q8 q9 q10 qL
          have HK_ := hide (HK.out.below hbB HK.out.lt)
          have HA_ := hide (HA.out.below hbB HA.out.lt)
          have HW_ := hide (ext HW.out hbB)
          clear HK HA HW
          have HK := HK_
          have HA := HA_
          have HW := HW_
          clear HK_ HA_ HW_
          clear hbB
          have r0 := HK.out.cell 0
          have r1 := HK.out.cell 1
          have r2 := HK.out.cell 2
          have r3 := HK.out.cell 3
          have rL := HK.out.lt
          have q0 := HA.out.cell 0
          have q1 := HA.out.cell 1
          have q2 := HA.out.cell 2
          have q3 := HA.out.cell 3
          have q4 := HA.out.cell 4
          have q5 := HA.out.cell 5
          have q6 := HA.out.cell 6
          have q7 := HA.out.cell 7
          have q8 := HA.out.cell 8
          have q9 := HA.out.cell 9
          have q10 := HA.out.cell 10
          have qL := HA.out.lt
          simp at r0 r1 r2 r3 q0 q1 q2 q3 q4 q5 q6 q7 q8 q9 q10
          go_wp2_with fail
          go_ret
          exact ⟨rfl, HW.out⟩
        · exact absurd h1 h0
      · subst h0
        subst hcap
        have hz : n.err = 0 ∧ condErr n cs = 0 := by
          have h0 := HY.out
          unfold askErr at h0
          by_cases h3 : n.err = 0
          · rw [if_neg (by rw [h3]; decide)] at h0; exact ⟨h3, h0⟩
          · rw [if_pos h3] at h0; exact absurd h0 h3
        have HG := hide (given_of hz.1 hz.2 (HSZ.out hz.1).1 (HSZ.out hz.1).2)
        have HP5 := hide (Net.err_zero hz.1).1
        have HCG := hide (cond_get hz.2)
        have HIS := hide hIs
        have HRD : Hid (RowT WH A9 n.nodes.length fun k => str (fracText (h k))) := hide hrd
        clear r0 r1 r2 r3 rL q0 q1 q2 q3 q4 q5 q6 q7 q8 q9 q10 qL hh hIs hdz hrd hz
        have HK_ := hide (HK.out.below hbB HK.out.lt)
        have HA_ := hide (HA.out.below hbB HA.out.lt)
        have HW_ := hide (ext HW.out hbB)
        clear HK HA HW
        have HK := HK_
        have HA := HA_
        have HW := HW_
        clear HK_ HA_ HW_
        clear hbB
        have r0 := HK.out.cell 0
        have r1 := HK.out.cell 1
        have r2 := HK.out.cell 2
        have r3 := HK.out.cell 3
        have rL := HK.out.lt
        have q0 := HA.out.cell 0
        have q1 := HA.out.cell 1
        have q2 := HA.out.cell 2
        have q3 := HA.out.cell 3
        have q4 := HA.out.cell 4
        have q5 := HA.out.cell 5
        have q6 := HA.out.cell 6
        have q7 := HA.out.cell 7
        have q8 := HA.out.cell 8
        have q9 := HA.out.cell 9
        have q10 := HA.out.cell 10
        have qL := HA.out.lt
        simp at r0 r1 r2 r3 q0 q1 q2 q3 q4 q5 q6 q7 q8 q9 q10
        go_wp2_with fail
        have hh := HFL.out _ HW.out
        unfold RetFlows at hh
        rw [HY.out] at hh
        refine hh.mono ?_
        rintro e WF ⟨hbB, ⟨h1, rfl⟩ | ⟨_, A7, cap7, h7, rfl, hcap, hIs, hrd⟩⟩
        · exact absurd rfl h1
        · have hsame := NetHeads.same HG.out hIs HIS.out
          have HRF : Hid (RowT WF A7 n.pipes.length fun i => str (fracText (flowAt n cs h i))) := hide (RowT.congr hrd (fun i hi => by
            unfold flowAt
            rw [hsame _ (HG.out.piped.from_lt i hi), hsame _ (HG.out.piped.to_lt i hi)]))
          clear r0 r1 r2 r3 rL q0 q1 q2 q3 q4 q5 q6 q7 q8 q9 q10 qL hh hIs hrd hsame hcap
          have HK_ := hide (HK.out.below hbB HK.out.lt)
          have HA_ := hide (HA.out.below hbB HA.out.lt)
          have HW_ := hide (ext HW.out hbB)
          have HRD_ := hide (HRD.out.below hbB)
          clear HK HA HW HRD
          have HK := HK_
          have HA := HA_
          have HW := HW_
          have HRD := HRD_
          clear HK_ HA_ HW_ HRD_
          clear hbB
          have r0 := HK.out.cell 0
          have r1 := HK.out.cell 1
          have r2 := HK.out.cell 2
          have r3 := HK.out.cell 3
          have rL := HK.out.lt
          have q0 := HA.out.cell 0
          have q1 := HA.out.cell 1
          have q2 := HA.out.cell 2
          have q3 := HA.out.cell 3
          have q4 := HA.out.cell 4
          have q5 := HA.out.cell 5
          have q6 := HA.out.cell 6
          have q7 := HA.out.cell 7
          have q8 := HA.out.cell 8
          have q9 := HA.out.cell 9
          have q10 := HA.out.cell 10
          have qL := HA.out.lt
          simp at r0 r1 r2 r3 q0 q1 q2 q3 q4 q5 q6 q7 q8 q9 q10
          go_wp2_with fail
          have HSH : Hid (∀ k, k < n.nodes.length → Short 50000 (h k)) := hide (fun k hk => Dz.short ((HG.out.commonE HIS.out).get hk) (by omega))
          have hh := HB1.out _ HW.out _ _ (HRD.out.nodes HSH.out (by have := HG.out.hN; omega))
          unfold RetBal at hh
          rw [balErr_own HY.out HSH.out] at hh
          refine hh.mono ?_
          rintro e WB ⟨hbB, ⟨h1, rfl⟩ | ⟨_, hB, hIs, rfl⟩⟩
          · exact absurd rfl h1
          have hsame := NetHeads.same HG.out hIs HIS.out
          have hd : decide ((List.range n.nodes.length).map (fun k => fracText (hB k)) = headTexts n.nodes.length h) = true := decide_eq_true (headTexts_congr hsame)
          rw [hd]
          have hNb : n.nodes.length ≤ 6 := HG.out.hN
          have hPb : n.pipes.length ≤ 9 := HG.out.hp
          clear r0 r1 r2 r3 rL q0 q1 q2 q3 q4 q5 q6 q7 q8 q9 q10 qL hh hIs hsame hd
          have HK_ := hide (HK.out.below hbB HK.out.lt)
          have HA_ := hide (HA.out.below hbB HA.out.lt)
          have HW_ := hide (ext HW.out hbB)
          have HRD_ := hide (HRD.out.below hbB)
          have HRF_ := hide (HRF.out.below hbB)
          clear HK HA HW HRD HRF
          have HK := HK_
          have HA := HA_
          have HW := HW_
          have HRD := HRD_
          have HRF := HRF_
          clear HK_ HA_ HW_ HRD_ HRF_
          clear hbB
          have r0 := HK.out.cell 0
          have r1 := HK.out.cell 1
          have r2 := HK.out.cell 2
          have r3 := HK.out.cell 3
          have rL := HK.out.lt
          have q0 := HA.out.cell 0
          have q1 := HA.out.cell 1
          have q2 := HA.out.cell 2
          have q3 := HA.out.cell 3
          have q4 := HA.out.cell 4
          have q5 := HA.out.cell 5
          have q6 := HA.out.cell 6
          have q7 := HA.out.cell 7
          have q8 := HA.out.cell 8
          have q9 := HA.out.cell 9
          have q10 := HA.out.cell 10
          have qL := HA.out.lt
          simp at r0 r1 r2 r3 q0 q1 q2 q3 q4 q5 q6 q7 q8 q9 q10
          obtain ⟨N, hN⟩ : ∃ N, N = n.nodes.length := ⟨_, rfl⟩
          obtain ⟨P, hP⟩ : ∃ P, P = n.pipes.length := ⟨_, rfl⟩
          have hk0 : k0 = N := by rw [hN]; exact HK0.out
          have hk1 : k1 = P := by rw [hP]; exact HK1.out
          subst hk0
          subst hk1
          rw [← hN] at HRD hNb ⊢
          rw [← hP] at HRF hPb ⊢
          clear hN hP
          have e1 : ((k0 : Int) != (k0 : Int)) = false := by simp
          have e2 : ((k1 : Int) != (k1 : Int)) = false := by simp
          go_wp2_with fail
          clear e1 e2
          have hh := HB1.out _ HW.out _ _ (HC1B.out _ HW.out)
          unfold RetBal at hh
          obtain ⟨z, HZ⟩ : ∃ z, Hid (balErr n cs gs = z) := ⟨_, hide rfl⟩
          rw [HZ.out] at hh
          refine hh.mono ?_
          rintro e WC hret
          obtain ⟨hbB, hret⟩ := hret
          clear r0 r1 r2 r3 rL q0 q1 q2 q3 q4 q5 q6 q7 q8 q9 q10 qL hh
          have HK_ := hide (HK.out.below hbB HK.out.lt)
          have HA_ := hide (HA.out.below hbB HA.out.lt)
          have HW_ := hide (ext HW.out hbB)
          have HRD_ := hide (HRD.out.below hbB)
          have HRF_ := hide (HRF.out.below hbB)
          clear HK HA HW HRD HRF
          have HK := HK_
          have HA := HA_
          have HW := HW_
          have HRD := HRD_
          have HRF := HRF_
          clear HK_ HA_ HW_ HRD_ HRF_
          clear hbB
          have r0 := HK.out.cell 0
          have r1 := HK.out.cell 1
          have r2 := HK.out.cell 2
          have r3 := HK.out.cell 3
          have rL := HK.out.lt
          have q0 := HA.out.cell 0
          have q1 := HA.out.cell 1
          have q2 := HA.out.cell 2
          have q3 := HA.out.cell 3
          have q4 := HA.out.cell 4
          have q5 := HA.out.cell 5
          have q6 := HA.out.cell 6
          have q7 := HA.out.cell 7
          have q8 := HA.out.cell 8
          have q9 := HA.out.cell 9
          have q10 := HA.out.cell 10
          have qL := HA.out.lt
          simp at r0 r1 r2 r3 q0 q1 q2 q3 q4 q5 q6 q7 q8 q9 q10
          obtain ⟨b, rfl, hbz⟩ : ∃ b, e = .returned (.tuple #[.bool b, .int .i64 z]) ∧ (z = 0 → b = decide (headTexts k0 h = gs)) := by
            rcases hret with ⟨h1, rfl⟩ | ⟨h1, hB2, hIs, rfl⟩
            · exact ⟨false, rfl, fun h2 => absurd h2 h1⟩
            · refine ⟨_, by rw [h1], fun _ => ?_⟩
              have hd : (List.range n.nodes.length).map (fun k => fracText (hB2 k)) = headTexts k0 h := by rw [HK0.out]; exact headTexts_congr (NetHeads.same HG.out hIs HIS.out)
              rw [hd]
          have HBZ := hide hbz
          clear hret hbz
          go_upto_region 11 with fail
          go_cut [104] from 95 (fun s wc => s = .bool false ∧ Hid (Below WC.heap.size WC wc))
          case first =>
            by_cases hz : z = 0
            · have hb := HBZ.out hz
              subst hz
              have hsl := fun w' (hb : Below WC.heap.size WC w') => law_same A9 B1 k0 d1 (headTexts k0 h) gs w' (RowT.reads (HRD.out.below hb)) (by obtain ⟨A', c', e, _, _, _, hr, _⟩ := HC1B.out _ (ext HW.out hb); injection e with f1 f2 f3; subst f1; exact hr) (by rw [headTexts_length]; omega) (by obtain ⟨A', c', e, _, _, hr, _⟩ := HC1B.out _ (ext HW.out hb); exact hr)
              rw [headTexts_length, ← HM1.out, ← hb] at hsl
              have hbb : (b != b) = false := by simp
              clear hb HBZ
              have HNN := hide (ext_refl WC)
              go_wp2_with fail
              refine (hsl _ HNN.out).mono ?_
              rintro e WN ⟨rfl, hbB⟩
              try clear r0 r1 r2 r3 rL q0 q1 q2 q3 q4 q5 q6 q7 q8 q9 q10 qL
              have HK_ := hide (HK.out.below hbB HK.out.lt)
              have HA_ := hide (HA.out.below hbB HA.out.lt)
              have HW_ := hide (ext HW.out hbB)
              have HRD_ := hide (HRD.out.below hbB)
              have HRF_ := hide (HRF.out.below hbB)
              have HNN_ := hide (ext HNN.out hbB)
              clear HK HA HW HRD HRF HNN
              have HK := HK_
              have HA := HA_
              have HW := HW_
              have HRD := HRD_
              have HRF := HRF_
              have HNN := HNN_
              clear HK_ HA_ HW_ HRD_ HRF_ HNN_
              clear hbB
              have r0 := HK.out.cell 0
              have r1 := HK.out.cell 1
              have r2 := HK.out.cell 2
              have r3 := HK.out.cell 3
              have rL := HK.out.lt
              have q0 := HA.out.cell 0
              have q1 := HA.out.cell 1
              have q2 := HA.out.cell 2
              have q3 := HA.out.cell 3
              have q4 := HA.out.cell 4
              have q5 := HA.out.cell 5
              have q6 := HA.out.cell 6
              have q7 := HA.out.cell 7
              have q8 := HA.out.cell 8
              have q9 := HA.out.cell 9
              have q10 := HA.out.cell 10
              have qL := HA.out.lt
              simp at r0 r1 r2 r3 q0 q1 q2 q3 q4 q5 q6 q7 q8 q9 q10
              clear hsl
              go_wp2_with fail
              go_meet
              exact ⟨rfl, HNN⟩
            · have hI : (z == 0) = false := by rw [beq_eq_false_iff_ne]; exact hz
              clear hz HBZ
              go_wp2_with fail
              go_meet
              exact ⟨rfl, hide (ext_refl WC)⟩
          case rest =>
            obtain ⟨rfl, HWC⟩ := hcut
            clear r0 r1 r2 r3 rL q0 q1 q2 q3 q4 q5 q6 q7 q8 q9 q10 qL HZ HBZ
            have HK_ := hide (HK.out.below HWC.out HK.out.lt)
            have HA_ := hide (HA.out.below HWC.out HA.out.lt)
            have HW_ := hide (ext HW.out HWC.out)
            have HRD_ := hide (HRD.out.below HWC.out)
            have HRF_ := hide (HRF.out.below HWC.out)
            clear HK HA HW HRD HRF
            have HK := HK_
            have HA := HA_
            have HW := HW_
            have HRD := HRD_
            have HRF := HRF_
            clear HK_ HA_ HW_ HRD_ HRF_
            clear HWC
            go_wp2_with fail
            generalize wc = WL at HK HA HW HRD HRF ⊢
            obtain ⟨S, HT⟩ : ∃ S, Hid (Terms n.nodes.length n.pipes.length (condOf cs) h S 12843) := HG.out.terms HIS.out
            have HCO := hide (HG.out.commonE HIS.out)
            have HPI := hide HG.out.piped
            have HEN := hide HP5.out.1.1.ends
            rw [← HK0.out] at HT HCO HPI HSH
            rw [← HK1.out] at HT HPI
            go_loopw [12] (IdxR k1 WL) (fun iv _ => k1 - (intOf iv).toNat)
            case atStart => exact ⟨0, Nat.zero_le _, rfl, hide (ext_refl WL)⟩
            case round =>
              obtain ⟨i, hi, rfl, HWR⟩ := hrel
              have HK_ := hide (HK.out.below HWR.out HK.out.lt)
              have HA_ := hide (HA.out.below HWR.out HA.out.lt)
              have HW_ := hide (ext HW.out HWR.out)
              have HRD_ := hide (HRD.out.below HWR.out)
              have HRF_ := hide (HRF.out.below HWR.out)
              clear HK HA HW HRD HRF
              have HK := HK_
              have HA := HA_
              have HW := HW_
              have HRD := HRD_
              have HRF := HRF_
              clear HK_ HA_ HW_ HRD_ HRF_
              have r0 := HK.out.cell 0
              have r1 := HK.out.cell 1
              have r2 := HK.out.cell 2
              have r3 := HK.out.cell 3
              have rL := HK.out.lt
              have q0 := HA.out.cell 0
              have q1 := HA.out.cell 1
              have q2 := HA.out.cell 2
              have q3 := HA.out.cell 3
              have q4 := HA.out.cell 4
              have q5 := HA.out.cell 5
              have q6 := HA.out.cell 6
              have q7 := HA.out.cell 7
              have q8 := HA.out.cell 8
              have q9 := HA.out.cell 9
              have q10 := HA.out.cell 10
              have qL := HA.out.lt
              simp at r0 r1 r2 r3 q0 q1 q2 q3 q4 q5 q6 q7 q8 q9 q10
              by_cases hil : i < k1
              · skip --l1
                have hin : i < n.pipes.length := by have := HK1.out; omega
                have hii : (i : Int) < (k1 : Int) := by omega
                obtain ⟨ad, e1, hb, p0, p1, p2, p3, p4⟩ := (HN1.out.below HW.out).at_ hin
                subst e1
                have hic : i < cs.length := by have := HCG.out.1; omega
                obtain ⟨ac, e2, lc0, qc0⟩ := cond_at HC0.out hic
                subst e2
                have hci := HCG.out.2 i hic
                rw [hci.1] at qc0
                have hcs : Short 50000 (condOf cs i) := Dz.short (Short.sz hci.2.1) (show 12 < 50000 by omega)
                have hcc : numOf (cs.getD i []) = condOf cs i := rfl
                rw [hcc] at qc0
                obtain ⟨e3, _, e4, _⟩ := HEN.out i hin
                rw [e3] at p1
                rw [e4] at p2
                have hf0 : n.pf i < k0 := HPI.out.from_lt i hil
                have ht0 : n.pt i < k0 := HPI.out.to_lt i hil
                obtain ⟨a9, e5, l9, h9⟩ := HRD.out.at_ hf0
                subst e5
                have u1 := h9 _ hf0
                have u2 := h9 _ ht0
                obtain ⟨a7, e6, l7, h7'⟩ := HRF.out.at_ hil
                subst e6
                have u7 := h7' _ hil
                have s3 : Short 50000 (h (n.pf i) - h (n.pt i)) := HCO.out.diff (by omega) hf0 ht0
                have s4 : Short 50000 (condOf cs i * (h (n.pf i) - h (n.pt i))) := HT.out.short (by omega) hil hf0 ht0
                have hmi := fun w' => ex_sub w' (HSH.out _ hf0) (HSH.out _ ht0) s3
                have htm := fun w' => ex_mul w' hcs s3 s4
                have hfl : condOf cs i * (h (n.pf i) - h (n.pt i)) = flowAt n cs h i := rfl
                rw [hfl] at htm
                have hff : (n.pf i : Int) < (k0 : Int) := by omega
                have htt : (n.pt i : Int) < (k0 : Int) := by omega
                have hll : (i : Int) < (m0 : Int) := by have := HM0.out; omega
                generalize hX1 : fracText (h (n.pf i)) = x1 at u1 hmi
                generalize hX2 : fracText (h (n.pt i)) = x2 at u2 hmi
                generalize hX3 : fracText (h (n.pf i) - h (n.pt i)) = x3 at hmi htm
                generalize hX5 : fracText (condOf cs i) = x5 at htm qc0
                have HQC : Hid (∀ W, Below w.heap.size w W → ac.block < W.heap.size ∧ W.cell? (ac.add i) = some (str x5)) := hide (fun W hW => ⟨Nat.lt_of_lt_of_le lc0 hW.size, (hW.cell (by rw [block_of_add]; exact lc0)).trans qc0⟩)
                clear hci hcs hcc e3 e4 h9 h7' s3 s4 hfl p0 p3 p4 hX1 hX2 hX3 hX5 l7 u7 lc0 qc0
                go_wp2_with fail
                have r1g := grown_cell rL r1
                have p1g := grown_fcell hb p1
                have p2g := grown_fcell hb p2
                have u1g := grown_acell l9 u1
                have u2g := grown_acell l9 u2
                refine wp_region_grown (by kernel_rfl) (by kernel_rfl) ?_
                repeat (quiet_step (first | (go_at_call 21; exact call_grown (hmi _))))
                refine wpQuiet_nil ?_
                rintro w9 ⟨t9, rfl⟩
                clear r1g p1g p2g u1g u2g
                have hbB := grown_below wr t9
                try clear r0 r1 r2 r3 rL q0 q1 q2 q3 q4 q5 q6 q7 q8 q9 q10 qL
                have HK_ := hide (HK.out.below hbB HK.out.lt)
                have HA_ := hide (HA.out.below hbB HA.out.lt)
                have HW_ := hide (ext HW.out hbB)
                have HRD_ := hide (HRD.out.below hbB)
                have HRF_ := hide (HRF.out.below hbB)
                have HWR_ := hide (ext HWR.out hbB)
                clear HK HA HW HRD HRF HWR
                have HK := HK_
                have HA := HA_
                have HW := HW_
                have HRD := HRD_
                have HRF := HRF_
                have HWR := HWR_
                clear HK_ HA_ HW_ HRD_ HRF_ HWR_
                generalize grown wr t9 = WN at hbB HK HA HW HRD HRF HWR ⊢
                clear t9
                have r0 := HK.out.cell 0
                have r1 := HK.out.cell 1
                have r2 := HK.out.cell 2
                have r3 := HK.out.cell 3
                have rL := HK.out.lt
                have q0 := HA.out.cell 0
                have q1 := HA.out.cell 1
                have q2 := HA.out.cell 2
                have q3 := HA.out.cell 3
                have q4 := HA.out.cell 4
                have q5 := HA.out.cell 5
                have q6 := HA.out.cell 6
                have q7 := HA.out.cell 7
                have q8 := HA.out.cell 8
                have q9 := HA.out.cell 9
                have q10 := HA.out.cell 10
                have qL := HA.out.lt
                simp at r0 r1 r2 r3 q0 q1 q2 q3 q4 q5 q6 q7 q8 q9 q10
                clear p1 p2 u1 u2 l9 hb hmi hbB
                obtain ⟨lc, qc⟩ := HQC.out _ HW.out
                go_wp2_with fail
                clear lc qc
                refine (htm _).mono ?_
                rintro e WN ⟨rfl, hbB⟩
                try clear r0 r1 r2 r3 rL q0 q1 q2 q3 q4 q5 q6 q7 q8 q9 q10 qL
                have HK_ := hide (HK.out.below hbB HK.out.lt)
                have HA_ := hide (HA.out.below hbB HA.out.lt)
                have HW_ := hide (ext HW.out hbB)
                have HRD_ := hide (HRD.out.below hbB)
                have HRF_ := hide (HRF.out.below hbB)
                have HWR_ := hide (ext HWR.out hbB)
                clear HK HA HW HRD HRF HWR
                have HK := HK_
                have HA := HA_
                have HW := HW_
                have HRD := HRD_
                have HRF := HRF_
                have HWR := HWR_
                clear HK_ HA_ HW_ HRD_ HRF_ HWR_
                clear hbB
                have r0 := HK.out.cell 0
                have r1 := HK.out.cell 1
                have r2 := HK.out.cell 2
                have r3 := HK.out.cell 3
                have rL := HK.out.lt
                have q0 := HA.out.cell 0
                have q1 := HA.out.cell 1
                have q2 := HA.out.cell 2
                have q3 := HA.out.cell 3
                have q4 := HA.out.cell 4
                have q5 := HA.out.cell 5
                have q6 := HA.out.cell 6
                have q7 := HA.out.cell 7
                have q8 := HA.out.cell 8
                have q9 := HA.out.cell 9
                have q10 := HA.out.cell 10
                have qL := HA.out.lt
                simp at r0 r1 r2 r3 q0 q1 q2 q3 q4 q5 q6 q7 q8 q9 q10
                clear htm
                obtain ⟨a7', e7, l7, h7'⟩ := HRF.out.at_ hil
                injection e7 with e7
                subst e7
                have u7 := h7' _ hil
                clear h7'
                generalize fracText (flowAt n cs h i) = x4 at u7 ⊢
                have hxx : (x4 != x4) = false := by simp
                go_wp2_with fail
                go_round
                case rel => exact ⟨i + 1, by omega, by go_num, HWR⟩
                case measure => simp [intOf]; omega
              · obtain rfl : k1 = i := by omega
                clear hil hi
                go_wp2_with fail
                clear r0 r1 r2 r3 rL q0 q1 q2 q3 q4 q5 q6 q7 q8 q9 q10 qL HWR
                generalize wr = WM at HK HA HW HRD HRF ⊢
                go_loopw [6, 17] (IdxE k0 WM) (fun _ iv _ => k0 - (intOf iv).toNat)
                case atStart => exact ⟨0, Nat.zero_le _, rfl, rfl, hide (ext_refl WM)⟩
                case round =>
                  obtain ⟨k, hk, rfl, rfl, HWR⟩ := hrel
                  have HK_ := hide (HK.out.below HWR.out HK.out.lt)
                  have HW_ := hide (ext HW.out HWR.out)
                  have HRD_ := hide (HRD.out.below HWR.out)
                  have HRF_ := hide (HRF.out.below HWR.out)
                  clear HK HW HRD HRF
                  have HK := HK_
                  have HW := HW_
                  have HRD := HRD_
                  have HRF := HRF_
                  clear HK_ HW_ HRD_ HRF_
                  by_cases hkl : k < k0
                  · have hki : (k : Int) < (k0 : Int) := by omega
                    have hkn : k < n.nodes.length := by have := HK0.out; omega
                    go_wp2_with fail
                    generalize wr = W2 at HK HW HRD HRF HWR ⊢
                    go_loopw [19, 20] (BFixR n.heads k W2) (fun _ iv _ => k2 - (intOf iv).toNat)
                    case atStart => exact ⟨0, false, Nat.zero_le _, rfl, rfl, hide ⟨fun h => (by cases h), fun ⟨j, _, h, _⟩ => (by omega)⟩, hide (ext_refl W2)⟩
                    case round =>
                      skip --l3
                      obtain ⟨i, b, hi, rfl, rfl, HB, HWI⟩ := hrel
                      have HK_ := hide (HK.out.below HWI.out HK.out.lt)
                      have HW_ := hide (ext HW.out HWI.out)
                      have HRD_ := hide (HRD.out.below HWI.out)
                      have HRF_ := hide (HRF.out.below HWI.out)
                      have HWR_ := hide (ext HWR.out HWI.out)
                      clear HK HW HRD HRF HWR
                      have HK := HK_
                      have HW := HW_
                      have HRD := HRD_
                      have HRF := HRF_
                      have HWR := HWR_
                      clear HK_ HW_ HRD_ HRF_ HWR_
                      have r0 := HK.out.cell 0
                      have r1 := HK.out.cell 1
                      have r2 := HK.out.cell 2
                      have r3 := HK.out.cell 3
                      have rL := HK.out.lt
                      simp at r0 r1 r2 r3
                      by_cases hil : i < k2
                      · have hin : i < n.heads.length := by have := HK2.out; omega
                        have hii : (i : Int) < (k2 : Int) := by omega
                        obtain ⟨ad, e1, hb, p0, p1⟩ := (HN2.out.below HW.out).at_ hin
                        subst e1
                        by_cases hnode : n.heads[i].node = (k : Int)
                        · skip --l3a
                          rw [HIS.out.fixed HP5.out hkn hin hnode] at p1
                          obtain ⟨a9, e5, l9, h9⟩ := HRD.out.at_ hkl
                          subst e5
                          have u1 := h9 _ hkl
                          have hI : (n.heads[i].node == (k : Int)) = true := by rw [beq_iff_eq]; exact hnode
                          have HNX : Hid (∃ j, ∃ hj : j < n.heads.length, j < i + 1 ∧ n.heads[j].node = (k : Int)) := hide ⟨i, hin, by omega, hnode⟩
                          generalize fracText (h k) = x4 at u1 p1
                          have hxx : (x4 != x4) = false := by simp
                          clear hnode h9 HB
                          generalize n.heads[i].node = nd at p0 hI
                          go_wp2_with fail
                          go_quiet (fail)
                          have hbB := ext_drewN wr nq
                          try clear r0 r1 r2 r3 rL
                          have HK_ := hide (HK.out.below hbB HK.out.lt)
                          have HW_ := hide (ext HW.out hbB)
                          have HRD_ := hide (HRD.out.below hbB)
                          have HRF_ := hide (HRF.out.below hbB)
                          have HWR_ := hide (ext HWR.out hbB)
                          have HWI_ := hide (ext HWI.out hbB)
                          clear HK HW HRD HRF HWR HWI
                          have HK := HK_
                          have HW := HW_
                          have HRD := HRD_
                          have HRF := HRF_
                          have HWR := HWR_
                          have HWI := HWI_
                          clear HK_ HW_ HRD_ HRF_ HWR_ HWI_
                          clear hbB
                          generalize wr.drewN nq = WN at HK HW HRD HRF HWR HWI ⊢
                          clear nq
                          have r0 := HK.out.cell 0
                          have r1 := HK.out.cell 1
                          have r2 := HK.out.cell 2
                          have r3 := HK.out.cell 3
                          have rL := HK.out.lt
                          simp at r0 r1 r2 r3
                          go_wp2_with fail
                          go_round
                          case rel => exact ⟨i + 1, true, by omega, by go_num, rfl, hide ⟨fun _ => HNX.out, fun _ => rfl⟩, HWI⟩
                          case measure => simp [intOf]; omega
                        · skip --l3b
                          have hI : (n.heads[i].node == (k : Int)) = false := by rw [beq_eq_false_iff_ne]; exact hnode
                          have HNX : Hid (b = true ↔ ∃ j, ∃ hj : j < n.heads.length, j < i + 1 ∧ n.heads[j].node = (k : Int)) := hide (HB.out.trans ⟨fun ⟨j, hj, h1, h2⟩ => ⟨j, hj, by omega, h2⟩, fun ⟨j, hj, h1, h2⟩ => ⟨j, hj, by
                            rcases Nat.lt_or_ge j i with h3 | h3
                            · exact h3
                            · obtain rfl : j = i := by omega
                              exact absurd h2 hnode, h2⟩⟩)
                          clear hnode HB p1
                          generalize n.heads[i].node = nd at p0 hI
                          go_wp2_with fail
                          go_round
                          case rel => exact ⟨i + 1, b, by omega, by go_num, rfl, HNX, HWI⟩
                          case measure => simp [intOf]; omega
                      · skip --l3c
                        obtain rfl : k2 = i := by have := HK2.out; omega
                        have HBF : Hid (b = true ∨ (b = false ∧ ∀ j (hj : j < n.heads.length), n.heads[j].node ≠ (k : Int))) := hide (by
                          cases b with
                          | true => exact .inl rfl
                          | false => exact .inr ⟨rfl, fun j hj e => by
                              have := HB.out.2 ⟨j, hj, by have := HK2.out; omega, e⟩
                              cases this⟩)
                        clear hil hi HB
                        go_wp2_with fail
                        clear r0 r1 r2 r3 rL HWI
                        generalize wr = W3 at HK HW HRD HRF HWR ⊢
                        obtain ⟨q, hq⟩ : ∃ q, q = (Net.at_ n.wells k).getD 0 := ⟨_, rfl⟩
                        have hdq : Dz 12 q := by rw [hq]; exact HG.out.wd k (by rw [← HK0.out]; exact hkl)
                        have HDQ := hide hdq
                        have HQ := hide hq
                        clear hq hdq
                        go_loopw [18, 21] (BWelR n.wells k q W3) (fun _ iv _ => k3 - (intOf iv).toNat)
                        case atStart => exact ⟨0, [48], Nat.zero_le _, rfl, rfl, hide (by unfold SmallS; simp), hide (.inl ⟨rfl, fun j _ h => by omega⟩), hide (ext_refl W3)⟩
                        case round =>
                          skip --l4
                          obtain ⟨i, s, hi, rfl, rfl, HSS, HS, HWI⟩ := hrel
                          have HK_ := hide (HK.out.below HWI.out HK.out.lt)
                          have HW_ := hide (ext HW.out HWI.out)
                          have HRD_ := hide (HRD.out.below HWI.out)
                          have HRF_ := hide (HRF.out.below HWI.out)
                          have HWR_ := hide (ext HWR.out HWI.out)
                          clear HK HW HRD HRF HWR
                          have HK := HK_
                          have HW := HW_
                          have HRD := HRD_
                          have HRF := HRF_
                          have HWR := HWR_
                          clear HK_ HW_ HRD_ HRF_ HWR_
                          have r0 := HK.out.cell 0
                          have r1 := HK.out.cell 1
                          have r2 := HK.out.cell 2
                          have r3 := HK.out.cell 3
                          have rL := HK.out.lt
                          simp at r0 r1 r2 r3
                          by_cases hil : i < k3
                          · have hin : i < n.wells.length := by have := HK3.out; omega
                            have hii : (i : Int) < (k3 : Int) := by omega
                            obtain ⟨ad, e1, hb, p0, p1⟩ := (HN3.out.below HW.out).at_ hin
                            subst e1
                            by_cases hnode : n.wells[i].node = (k : Int)
                            · rw [(level_value HP5.out.levs (Net.wells_once HP5.out) hin hnode).1, ← HQ.out] at p1
                              have hI : (n.wells[i].node == (k : Int)) = true := by rw [beq_iff_eq]; exact hnode
                              have HSN : Hid (SmallS (fracText q)) := hide (frac_small (Dz.short HDQ.out (by omega)))
                              clear hnode HS HSS
                              generalize n.wells[i].node = nd at p0 hI
                              go_wp2_with fail
                              go_round
                              case rel => exact ⟨i + 1, _, by omega, by go_num, rfl, HSN, hide (.inr rfl), HWI⟩
                              case measure => simp [intOf]; omega
                            · have hI : (n.wells[i].node == (k : Int)) = false := by rw [beq_eq_false_iff_ne]; exact hnode
                              have HNX : Hid ((s = [48] ∧ ∀ j (hj : j < n.wells.length), j < i + 1 → n.wells[j].node ≠ (k : Int)) ∨ s = fracText q) := hide (by
                                rcases HS.out with ⟨h1, h2⟩ | h1
                                · refine .inl ⟨h1, fun j hj h3 => ?_⟩
                                  rcases Nat.lt_or_ge j i with h4 | h4
                                  · exact h2 j hj h4
                                  · obtain rfl : j = i := by omega
                                    exact hnode
                                · exact .inr h1)
                              clear hnode HS p1
                              generalize n.wells[i].node = nd at p0 hI
                              go_wp2_with fail
                              go_round
                              case rel => exact ⟨i + 1, s, by omega, by go_num, rfl, HSS, HNX, HWI⟩
                              case measure => simp [intOf]; omega
                          · obtain rfl : k3 = i := by have := HK3.out; omega
                            have hs : s = fracText (q + flowTo 0 n.pf n.pt (condOf cs) h k) := by
                              rw [flowTo_zero, rat_zero_end]
                              rcases HS.out with ⟨h1, h2⟩ | h1
                              · rw [h1]
                                have h3 := level_none (fun j hj => h2 j hj (by have := HK3.out; omega))
                                have h4 := HQ.out
                                rw [h3] at h4
                                rw [h4]
                                exact (fracText_zero_iff.2 rfl).symm
                              · exact h1
                            subst hs
                            clear hil hi HS HSS
                            go_wp2_with fail
                            clear r0 r1 r2 r3 rL HWI
                            generalize wr = W4 at HK HW HRD HRF HWR ⊢
                            go_loopw [6, 18, 22] (SumR k1 (fun i => q + flowTo i n.pf n.pt (condOf cs) h k) W4) (fun _ _ iv _ => k1 - (intOf iv).toNat)
                            case atStart => exact ⟨0, Nat.zero_le _, rfl, rfl, rfl, hide (ext_refl W4)⟩
                            case round =>
                              obtain ⟨i, hi, rfl, rfl, rfl, HWI⟩ := hrel
                              have HK_ := hide (HK.out.below HWI.out HK.out.lt)
                              have HW_ := hide (ext HW.out HWI.out)
                              have HRD_ := hide (HRD.out.below HWI.out)
                              have HRF_ := hide (HRF.out.below HWI.out)
                              have HWR_ := hide (ext HWR.out HWI.out)
                              clear HK HW HRD HRF HWR
                              have HK := HK_
                              have HW := HW_
                              have HRD := HRD_
                              have HRF := HRF_
                              have HWR := HWR_
                              clear HK_ HW_ HRD_ HRF_ HWR_
                              have r0 := HK.out.cell 0
                              have r1 := HK.out.cell 1
                              have r2 := HK.out.cell 2
                              have r3 := HK.out.cell 3
                              have rL := HK.out.lt
                              simp at r0 r1 r2 r3
                              by_cases hil : i < k1
                              · have hin : i < n.pipes.length := by have := HK1.out; omega
                                have hii : (i : Int) < (k1 : Int) := by omega
                                obtain ⟨ad, e1, hb0, _, p10, p20, _, _⟩ := HN1.out.at_ hin
                                subst e1
                                obtain ⟨e3, _, e4, _⟩ := HEN.out i hin
                                rw [e3] at p10
                                rw [e4] at p20
                                have HQP : Hid (∀ W, Below w.heap.size w W → ad.block < W.heap.size ∧ W.cell? ⟨(ad.add (i * 5)).block, (ad.add (i * 5)).off + 1, none⟩ = some (.int .i64 (n.pf i : Int)) ∧ W.cell? ⟨(ad.add (i * 5)).block, (ad.add (i * 5)).off + 2, none⟩ = some (.int .i64 (n.pt i : Int))) :=
                                  hide (fun W hW => ⟨Nat.lt_of_lt_of_le hb0 hW.size, (hW.cell (by show (ad.add (i * 5)).block < _; rw [block_of_add]; exact hb0)).trans p10, (hW.cell (by show (ad.add (i * 5)).block < _; rw [block_of_add]; exact hb0)).trans p20⟩)
                                have hne : n.pf i ≠ n.pt i := HPI.out.ne i hil
                                have hs1 : Short 50000 (q + flowTo i n.pf n.pt (condOf cs) h k) := HT.out.with_well (by omega) HPI.out (by omega) k (by omega) HDQ.out
                                have hs2 : Short 50000 (q + flowTo (i + 1) n.pf n.pt (condOf cs) h k) := HT.out.with_well (by omega) HPI.out (by omega) k (by omega) HDQ.out
                                have hfs : Short 50000 (flowAt n cs h i) := HT.out.short (by omega) hil (HPI.out.from_lt i hil) (HPI.out.to_lt i hil)
                                have hnx := flow_next (cs := cs) (h := h) (k := k) hne
                                obtain ⟨a7', e7, l7, h7'⟩ := HRF.out.at_ hil
                                have u7 := h7' _ hil
                                subst e7
                                obtain ⟨hb, p1, p2⟩ := HQP.out _ HW.out
                                clear p10 p20 e3 e4 hb0 h7'
                                by_cases hp1 : n.pf i = k
                                · rw [if_pos hp1] at hnx
                                  have hp2 : ¬ n.pt i = k := fun e => hne (hp1.trans e.symm)
                                  have hI1 : ((n.pf i : Int) == (k : Int)) = true := by rw [beq_iff_eq, hp1]
                                  have hI2 : ((n.pt i : Int) == (k : Int)) = false := by rw [beq_eq_false_iff_ne]; omega
                                  have hnx2 : q + flowTo (i + 1) n.pf n.pt (condOf cs) h k = q + flowTo i n.pf n.pt (condOf cs) h k + flowAt n cs h i := by rw [hnx]; exact rat_next _ _ _
                                  rw [hnx2] at hs2
                                  have had := fun w' => ex_add w' hs1 hfs hs2
                                  have HNX := hide (congrArg fracText hnx2)
                                  generalize fracText (q + flowTo i n.pf n.pt (condOf cs) h k + flowAt n cs h i) = x6 at had HNX
                                  generalize fracText (q + flowTo i n.pf n.pt (condOf cs) h k) = x5 at had ⊢
                                  generalize fracText (flowAt n cs h i) = x4 at had u7
                                  clear hs1 hs2 hfs hnx hnx2 hp1 hp2 hne
                                  generalize n.pf i = pfi at HQP p1 hI1
                                  generalize n.pt i = pti at HQP p2 hI2
                                  go_wp2_with fail
                                  clear hb p1 p2 l7 u7
                                  refine (had _).mono ?_
                                  rintro e WN ⟨rfl, hbB⟩
                                  try clear r0 r1 r2 r3 rL
                                  have HK_ := hide (HK.out.below hbB HK.out.lt)
                                  have HW_ := hide (ext HW.out hbB)
                                  have HRD_ := hide (HRD.out.below hbB)
                                  have HRF_ := hide (HRF.out.below hbB)
                                  have HWR_ := hide (ext HWR.out hbB)
                                  have HWI_ := hide (ext HWI.out hbB)
                                  clear HK HW HRD HRF HWR HWI
                                  have HK := HK_
                                  have HW := HW_
                                  have HRD := HRD_
                                  have HRF := HRF_
                                  have HWR := HWR_
                                  have HWI := HWI_
                                  clear HK_ HW_ HRD_ HRF_ HWR_ HWI_
                                  clear hbB
                                  have r0 := HK.out.cell 0
                                  have r1 := HK.out.cell 1
                                  have r2 := HK.out.cell 2
                                  have r3 := HK.out.cell 3
                                  have rL := HK.out.lt
                                  simp at r0 r1 r2 r3
                                  clear had
                                  obtain ⟨hb, p1, p2⟩ := HQP.out _ HW.out
                                  go_wp2_with fail
                                  go_round
                                  case rel => exact ⟨i + 1, by omega, by go_num, rfl, congrArg str HNX.out.symm, HWI⟩
                                  case measure => simp [intOf]; omega
                                · rw [if_neg hp1] at hnx
                                  have hI1 : ((n.pf i : Int) == (k : Int)) = false := by rw [beq_eq_false_iff_ne]; omega
                                  by_cases hp2 : n.pt i = k
                                  · rw [if_pos hp2] at hnx
                                    have hI2 : ((n.pt i : Int) == (k : Int)) = true := by rw [beq_iff_eq, hp2]
                                    have hnx2 : q + flowTo (i + 1) n.pf n.pt (condOf cs) h k = q + flowTo i n.pf n.pt (condOf cs) h k - flowAt n cs h i := by rw [hnx]; exact rat_next' _ _ _
                                    rw [hnx2] at hs2
                                    have had := fun w' => ex_sub w' hs1 hfs hs2
                                    have HNX := hide (congrArg fracText hnx2)
                                    generalize fracText (q + flowTo i n.pf n.pt (condOf cs) h k - flowAt n cs h i) = x6 at had HNX
                                    generalize fracText (q + flowTo i n.pf n.pt (condOf cs) h k) = x5 at had ⊢
                                    generalize fracText (flowAt n cs h i) = x4 at had u7
                                    clear hs1 hs2 hfs hnx hnx2 hp1 hp2 hne
                                    generalize n.pf i = pfi at HQP p1 hI1
                                    generalize n.pt i = pti at HQP p2 hI2
                                    go_wp2_with fail
                                    clear hb p1 p2 l7 u7
                                    refine (had _).mono ?_
                                    rintro e WN ⟨rfl, hbB⟩
                                    try clear r0 r1 r2 r3 rL
                                    have HK_ := hide (HK.out.below hbB HK.out.lt)
                                    have HW_ := hide (ext HW.out hbB)
                                    have HRD_ := hide (HRD.out.below hbB)
                                    have HRF_ := hide (HRF.out.below hbB)
                                    have HWR_ := hide (ext HWR.out hbB)
                                    have HWI_ := hide (ext HWI.out hbB)
                                    clear HK HW HRD HRF HWR HWI
                                    have HK := HK_
                                    have HW := HW_
                                    have HRD := HRD_
                                    have HRF := HRF_
                                    have HWR := HWR_
                                    have HWI := HWI_
                                    clear HK_ HW_ HRD_ HRF_ HWR_ HWI_
                                    clear hbB
                                    have r0 := HK.out.cell 0
                                    have r1 := HK.out.cell 1
                                    have r2 := HK.out.cell 2
                                    have r3 := HK.out.cell 3
                                    have rL := HK.out.lt
                                    simp at r0 r1 r2 r3
                                    clear had
                                    go_wp2_with fail
                                    go_round
                                    case rel => exact ⟨i + 1, by omega, by go_num, rfl, congrArg str HNX.out.symm, HWI⟩
                                    case measure => simp [intOf]; omega
                                  · rw [if_neg hp2] at hnx
                                    have hI2 : ((n.pt i : Int) == (k : Int)) = false := by rw [beq_eq_false_iff_ne]; omega
                                    have HNX : Hid (fracText (q + flowTo (i + 1) n.pf n.pt (condOf cs) h k) = fracText (q + flowTo i n.pf n.pt (condOf cs) h k)) := hide (by rw [hnx])
                                    generalize fracText (q + flowTo i n.pf n.pt (condOf cs) h k) = x5 at HNX ⊢
                                    clear hs1 hs2 hfs hnx hp1 hp2 hne u7 l7
                                    generalize n.pf i = pfi at HQP p1 hI1
                                    generalize n.pt i = pti at HQP p2 hI2
                                    go_wp2_with fail
                                    go_round
                                    case rel => exact ⟨i + 1, by omega, by go_num, rfl, congrArg str HNX.out.symm, HWI⟩
                                    case measure => simp [intOf]; omega
                              · obtain rfl : k1 = i := by omega
                                skip --l6
                                have HEND : Hid (b = true ∨ (b = false ∧ fracText (q + flowTo k1 n.pf n.pt (condOf cs) h k) = [48])) := hide (by
                                  rcases HBF.out with h1 | ⟨h1, h2⟩
                                  · exact .inl h1
                                  · refine .inr ⟨h1, fracText_zero_iff.2 ?_⟩
                                    rw [HQ.out, HK1.out]
                                    exact HIS.out.free hkn h2)
                                generalize fracText (q + flowTo k1 n.pf n.pt (condOf cs) h k) = x5 at HEND ⊢
                                have hend := HEND.out
                                clear HEND HBF
                                rcases hend with rfl | ⟨rfl, rfl⟩
                                all_goals
                                  go_wp2_with fail
                                  go_round
                                  case rel => exact ⟨k + 1, by omega, by go_num, rfl, HWR⟩
                                  case measure => simp [intOf]; omega
                  · obtain rfl : k0 = k := by omega
                    go_wp2_with fail
                    refine (law_lives _).mono ?_
                    rintro e WN ⟨rfl, hbB⟩
                    have HW_ := hide (ext HW.out hbB)
                    clear HW
                    have HW := HW_
                    clear HW_
                    clear hbB
                    go_wp2_with fail
                    go_ret
                    exact ⟨rfl, HW.out⟩
end Go.Proofs.YtdecgcdkaaiglaaGreat
