/- The walk of WaterTwoSides. -/
import Derived.Below
import Derived.BigQuiet
import Derived.BigRegion
import Derived.Deep.AppendLies
import Derived.Deep.Cut
import Derived.Deep.CutBlock
import Derived.Deep.DeepCutAuto
import Derived.Deep.DeepMust
import Derived.Deep.DrawnRows
import Derived.Deep.Draws
import Derived.Deep.LoopGhost
import Derived.Deep.MidRow
import Derived.Deep.OwnRows
import Derived.Deep.Quiet
import Derived.Deep.QuietTactic
import Derived.Deep.RegionHeld3
import Derived.Deep.RegionLawGrows
import Derived.Deep.RegionWith
import Derived.IntWalk
import Derived.Laws.BitsAllLaws
import Derived.Laws.MathBits
import Derived.Laws.OwnMore
import Derived.Laws.Rows
import Derived.Lib.BitFns
import Derived.Lib.Bytealg
import Derived.Lib.Index
import Derived.Lib.Slices
import Derived.Lib.Small
import Derived.Lib.Strings
import Derived.Lib.Walk
import Derived.LoopN
import Derived.Maps.AppendAt
import Derived.OwnWalk
import Derived.RegionTactic
import Derived.Scope
import Derived.StillTail
import Derived.StillTailTactics
import Derived.WalkKit
import Derived.WalkLawsBesides
import Derived.WalkMore
import Derived.WalkSpells
import Init.Data.List.Lemmas
import Derived.Test.YtdecgcdkaaiglaaGreatMg27
set_option linter.unusedVariables false
set_option linter.unusedSimpArgs false
namespace Go.Proofs.YtdecgcdkaaiglaaGreat
open Go.RowKit Go.Deep
attribute [local go_sem ↓] Go.wp_at_zero Go.wp_at_succ
def OneR (l : List Pipe) (cs : List (List UInt8)) (g mb : Nat) (rest nb : List Value) (W : World) (iv : Value) (wr : World) : Prop :=
  ∃ i : Nat, i ≤ l.length ∧ iv = .int .i64 i ∧ Hid (PipBlk wr g (onePipes l cs i) rest) ∧ Hid (Blk wr mb 26 nb.toArray) ∧ Hid (Below W.heap.size W wr)
/-- the first i flows divided -/
def divT (f u : Nat → Rat) (N i : Nat) : List (List UInt8) := (List.range N).map fun j => fracText (if j < i then u j else f j)
theorem divT_length (f u : Nat → Rat) (N i : Nat) : (divT f u N i).length = N := by simp [divT]
theorem divT_get {f u : Nat → Rat} {N i j : Nat} (hj : j < (divT f u N i).length) : (divT f u N i)[j] = fracText (if j < i then u j else f j) := by simp [divT]
theorem divT_set {f u : Nat → Rat} {N i : Nat} (hi : i < N) : (divT f u N i).set i (fracText (u i)) = divT f u N (i + 1) := by
  apply List.ext_getElem (by simp [divT_length])
  intro j h1 h2
  rw [List.getElem_set]
  by_cases h : i = j
  · subst h; rw [if_pos rfl, divT_get, if_pos (by omega)]
  · rw [if_neg h, divT_get, divT_get]
    by_cases h3 : j < i
    · rw [if_pos h3, if_pos (by omega)]
    · rw [if_neg h3, if_neg (by omega)]
theorem divT_end (f u : Nat → Rat) (N : Nat) : divT f u N N = headTexts N u := by
  unfold divT headTexts
  refine List.map_congr_left fun j hj => ?_
  rw [if_pos (List.mem_range.1 hj)]
def TwoQ (N : Nat) (f u : Nat → Rat) (g : Nat) (rest : List Value) (W : World) (ev kv : Value) (wr : World) : Prop :=
  ∃ k : Nat, k ≤ N ∧ kv = .int .i64 k ∧ ev = .int .i64 0 ∧ Hid (TxtIs wr g (divT f u N k) rest) ∧ Hid (Below W.heap.size W wr)
set_option maxRecDepth 100000 in
set_option maxHeartbeats 32000000 in
theorem law_two (v va : Value) (n : Net) (x : Ask) (w : World) (hn : NetWide w v n) (hx : AskWide w va x) : Calls Tryz.prog 7 #[v, va] w (RetB w (.bool true)) := by
  have hgr := fun w' (h : Below w.heap.size w w') => law_great v n w' (hn.below h)
  have hwi := fun w' (h : Below w.heap.size w w') => law_wide va x w' (hx.below h)
  cases hg : isGreat n with
  | true =>
    skip --f1
    rw [hg] at hgr
    obtain ⟨A0, c0, A1, c1, A2, c2, A3, c3, rfl, _⟩ := hn
    obtain ⟨B0, d0, B1, d1, B2, d2, B3, d3, B4, d4, rfl, _⟩ := hx
    clear hg hwi
    have HW := hide (ext (ext_alloc w (.cells #[.slice A0 n.nodes.length c0, .slice A1 n.pipes.length c1, .slice A2 n.heads.length c2, .slice A3 n.wells.length c3] 26)) (ext_alloc _ (.cells #[.slice B0 x.cond.length d0, .slice B1 x.heads.length d1, .slice B2 x.flows.length d2, .int .i64 x.node, .int .i64 x.pipe, .int .i64 x.a, .int .i64 x.b, str x.first, str x.second, .slice B3 x.wells.length d3, .slice B4 x.limits.length d4] 31)))
    go_enter Tryz.func7, Tryz.ntmps7
    go_wp2_with fail
    refine (hgr _ HW.out).mono ?_
    rintro e WN ⟨rfl, hbB⟩
    have HW_ := hide (ext HW.out hbB)
    clear HW
    have HW := HW_
    clear HW_
    clear hbB
    go_wp2_with fail
    refine (law_lives _).mono ?_
    rintro e WN ⟨rfl, hbB⟩
    have HW_ := hide (ext HW.out hbB)
    clear HW
    have HW := HW_
    clear HW_
    clear hbB
    go_wp2_with fail
    go_ret
    exact ⟨rfl, HW.out⟩
  | false =>
    rw [hg] at hgr
    have hni := hn.small hg
    cases hw : isWide x with
    | true =>
      skip --f1
      rw [hw] at hwi
      obtain ⟨A0, c0, A1, c1, A2, c2, A3, c3, rfl, _⟩ := hn
      obtain ⟨B0, d0, B1, d1, B2, d2, B3, d3, B4, d4, rfl, _⟩ := hx
      clear hg hni hw
      have HW := hide (ext (ext_alloc w (.cells #[.slice A0 n.nodes.length c0, .slice A1 n.pipes.length c1, .slice A2 n.heads.length c2, .slice A3 n.wells.length c3] 26)) (ext_alloc _ (.cells #[.slice B0 x.cond.length d0, .slice B1 x.heads.length d1, .slice B2 x.flows.length d2, .int .i64 x.node, .int .i64 x.pipe, .int .i64 x.a, .int .i64 x.b, str x.first, str x.second, .slice B3 x.wells.length d3, .slice B4 x.limits.length d4] 31)))
      have HA : Hid (Blk ((w.alloc (.cells #[.slice A0 n.nodes.length c0, .slice A1 n.pipes.length c1, .slice A2 n.heads.length c2, .slice A3 n.wells.length c3] 26)).alloc (.cells #[.slice B0 x.cond.length d0, .slice B1 x.heads.length d1, .slice B2 x.flows.length d2, .int .i64 x.node, .int .i64 x.pipe, .int .i64 x.a, .int .i64 x.b, str x.first, str x.second, .slice B3 x.wells.length d3, .slice B4 x.limits.length d4] 31)) (w.heap.size + 1) 31 #[.slice B0 x.cond.length d0, .slice B1 x.heads.length d1, .slice B2 x.flows.length d2, .int .i64 x.node, .int .i64 x.pipe, .int .i64 x.a, .int .i64 x.b, str x.first, str x.second, .slice B3 x.wells.length d3, .slice B4 x.limits.length d4]) := hide (by
        have h := Blk.new (w.alloc (.cells #[.slice A0 n.nodes.length c0, .slice A1 n.pipes.length c1, .slice A2 n.heads.length c2, .slice A3 n.wells.length c3] 26)) 31 #[.slice B0 x.cond.length d0, .slice B1 x.heads.length d1, .slice B2 x.flows.length d2, .int .i64 x.node, .int .i64 x.pipe, .int .i64 x.a, .int .i64 x.b, str x.first, str x.second, .slice B3 x.wells.length d3, .slice B4 x.limits.length d4]
        simp only [World.size_alloc] at h
        exact h)
      go_enter Tryz.func7, Tryz.ntmps7
      go_wp2_with fail
      refine (hgr _ HW.out).mono ?_
      rintro e WN ⟨rfl, hbB⟩
      try clear q0 q1 q2 q3 q4 q5 q6 q7 q8 q9 q10 qL
      have HA_ := hide (HA.out.below hbB HA.out.lt)
      have HW_ := hide (ext HW.out hbB)
      clear HA HW
      have HA := HA_
      have HW := HW_
      clear HA_ HW_
      clear hbB
      have q0 := HA.out.cell 0
      have q1 := HA.out.cell 1
      have q2 := HA.out.cell 2
      have q3 := HA.out.cell 3
      have q4 := HA.out.cell 4
      have q5 := HA.out.cell 5
      have q6 := HA.out.cell 6
      have q7 := HA.out.cell 7
      have q8 := HA.out.cell 8
      have q9 := HA.out.cell 9
      have q10 := HA.out.cell 10
      have qL := HA.out.lt
      simp at q0 q1 q2 q3 q4 q5 q6 q7 q8 q9 q10
      go_wp2_with fail
      refine (hwi _ HW.out).mono ?_
      rintro e WN ⟨rfl, hbB⟩
      try clear q0 q1 q2 q3 q4 q5 q6 q7 q8 q9 q10 qL
      have HA_ := hide (HA.out.below hbB HA.out.lt)
      have HW_ := hide (ext HW.out hbB)
      clear HA HW
      have HA := HA_
      have HW := HW_
      clear HA_ HW_
      clear hbB
      have q0 := HA.out.cell 0
      have q1 := HA.out.cell 1
      have q2 := HA.out.cell 2
      have q3 := HA.out.cell 3
      have q4 := HA.out.cell 4
      have q5 := HA.out.cell 5
      have q6 := HA.out.cell 6
      have q7 := HA.out.cell 7
      have q8 := HA.out.cell 8
      have q9 := HA.out.cell 9
      have q10 := HA.out.cell 10
      have qL := HA.out.lt
      simp at q0 q1 q2 q3 q4 q5 q6 q7 q8 q9 q10
      go_wp2_with fail
      refine (law_lives _).mono ?_
      rintro e WN ⟨rfl, hbB⟩
      try clear q0 q1 q2 q3 q4 q5 q6 q7 q8 q9 q10 qL
      have HA_ := hide (HA.out.below hbB HA.out.lt)
      have HW_ := hide (ext HW.out hbB)
      clear HA HW
      have HA := HA_
      have HW := HW_
      clear HA_ HW_
      clear hbB
      have q0 := HA.out.cell 0
      have q1 := HA.out.cell 1
      have q2 := HA.out.cell 2
      have q3 := HA.out.cell 3
      have q4 := HA.out.cell 4
      have q5 := HA.out.cell 5
      have q6 := HA.out.cell 6
      have q7 := HA.out.cell 7
      have q8 := HA.out.cell 8
      have q9 := HA.out.cell 9
      have q10 := HA.out.cell 10
      have qL := HA.out.lt
      simp at q0 q1 q2 q3 q4 q5 q6 q7 q8 q9 q10
      go_wp2_with fail
      go_ret
      exact ⟨rfl, HW.out⟩
    | false =>
      rw [hw] at hwi
      have hsz := not_great hg
      obtain ⟨hl0, hl1, hl2, _⟩ := not_wide hw
      have HL1 := hide hl1
      have HL2 := hide hl2
      have hfz := fun w' (hb : Below w.heap.size w w') => hni.below hb
      obtain ⟨B0, d0, B1, d1, B2, d2, B3, d3, B4, d4, rfl, t0, t1, t2, _⟩ := hx
      have hc0 := t0.small hl0
      have hc1 := t1.small hl1
      have hc2 := t2.small hl2
      clear t0 t1 t2 hl0 hl1 hl2 hn
      obtain ⟨m0, e0⟩ : ∃ m, m = x.cond.length := ⟨_, rfl⟩
      obtain ⟨m1, e1⟩ : ∃ m, m = x.heads.length := ⟨_, rfl⟩
      obtain ⟨m2, e2⟩ : ∃ m, m = x.flows.length := ⟨_, rfl⟩
      rw [← e0] at hc0 hwi ⊢
      rw [← e1] at hc1 hwi ⊢
      rw [← e2] at hc2 hwi ⊢
      have HM0 := hide e0
      clear e0 e1 e2
      generalize x.node = z3 at hwi ⊢
      generalize x.pipe = z4 at hwi ⊢
      generalize x.a = z5 at hwi ⊢
      generalize x.b = z6 at hwi ⊢
      generalize x.first = s7 at hwi ⊢
      generalize x.second = s8 at hwi ⊢
      generalize x.wells.length = m9 at hwi ⊢
      generalize x.limits.length = m10 at hwi ⊢
      generalize hcs : x.cond = cs at hc0 HM0
      generalize hgs : x.heads = gs at hc1 HL1
      generalize hfs : x.flows = fs at hc2 HL2
      clear hcs hgs hfs hw hg
      have hwh := fun w' (hb : Below w.heap.size w w') a b => water_Whole v (.slice B0 m0 d0) n cs a b w' (hfz w' hb) (hc0.below hb) hsz
      have HSZ := hide hsz
      have HC0 := hide hc0
      have HWH := hide hwh
      have HIN := hide (fun w' (hb : Below w.heap.size w w') h0 h1 => (by have hh := hc0.below hb; rw [HM0.out] at hh ⊢; exact law_inside v B0 d0 n cs w' (hfz w' hb) hh h0 h1 : Calls Tryz.prog 28 #[v, .slice B0 m0 d0] w' (RetIns n cs w')))
      have HAB := hide (fun w' (hb : Below w.heap.size w w') => water_Above v (.slice B1 m1 d1) n z5 z6 gs w' (hfz w' hb) (hc1.below hb) hsz (fun h => long_common HL1.out h rfl (by omega)))
      have HBL := hide (fun w' (hb : Below w.heap.size w w') => water_Below v (.slice B2 m2 d2) n z5 z6 fs w' (hfz w' hb) (hc2.below hb) hsz (fun h => long_common HL2.out h rfl (by omega)))
      obtain ⟨A0, k0, c0, A1, k1, c1, A2, k2, c2, A3, k3, c3, rfl, hn0, hn1, hn2, hn3⟩ := hni
      have hk0 : k0 = n.nodes.length := by obtain ⟨A', c', e, _⟩ := hn0; injection e
      have hk1 : k1 = n.pipes.length := by obtain ⟨A', c', e, _⟩ := hn1; injection e
      have HK0 := hide hk0
      have HK1 := hide hk1
      have HN0 := hide hn0
      have HN1 := hide hn1
      clear hn0 hn1 hn2 hn3 hc0 hc1 hc2 hsz hfz hwh hk0 hk1
      have HW := hide (ext (ext_alloc w (.cells #[.slice A0 k0 c0, .slice A1 k1 c1, .slice A2 k2 c2, .slice A3 k3 c3] 26)) (ext_alloc _ (.cells #[.slice B0 m0 d0, .slice B1 m1 d1, .slice B2 m2 d2, .int .i64 z3, .int .i64 z4, .int .i64 z5, .int .i64 z6, str s7, str s8, .slice B3 m9 d3, .slice B4 m10 d4] 31)))
      have HK : Hid (Blk ((w.alloc (.cells #[.slice A0 k0 c0, .slice A1 k1 c1, .slice A2 k2 c2, .slice A3 k3 c3] 26)).alloc (.cells #[.slice B0 m0 d0, .slice B1 m1 d1, .slice B2 m2 d2, .int .i64 z3, .int .i64 z4, .int .i64 z5, .int .i64 z6, str s7, str s8, .slice B3 m9 d3, .slice B4 m10 d4] 31)) w.heap.size 26 #[.slice A0 k0 c0, .slice A1 k1 c1, .slice A2 k2 c2, .slice A3 k3 c3]) := hide ((Blk.new w 26 #[.slice A0 k0 c0, .slice A1 k1 c1, .slice A2 k2 c2, .slice A3 k3 c3]).alloc _)
      have HA : Hid (Blk ((w.alloc (.cells #[.slice A0 k0 c0, .slice A1 k1 c1, .slice A2 k2 c2, .slice A3 k3 c3] 26)).alloc (.cells #[.slice B0 m0 d0, .slice B1 m1 d1, .slice B2 m2 d2, .int .i64 z3, .int .i64 z4, .int .i64 z5, .int .i64 z6, str s7, str s8, .slice B3 m9 d3, .slice B4 m10 d4] 31)) (w.heap.size + 1) 31 #[.slice B0 m0 d0, .slice B1 m1 d1, .slice B2 m2 d2, .int .i64 z3, .int .i64 z4, .int .i64 z5, .int .i64 z6, str s7, str s8, .slice B3 m9 d3, .slice B4 m10 d4]) := hide (by
        have h := Blk.new (w.alloc (.cells #[.slice A0 k0 c0, .slice A1 k1 c1, .slice A2 k2 c2, .slice A3 k3 c3] 26)) 31 #[.slice B0 m0 d0, .slice B1 m1 d1, .slice B2 m2 d2, .int .i64 z3, .int .i64 z4, .int .i64 z5, .int .i64 z6, str s7, str s8, .slice B3 m9 d3, .slice B4 m10 d4]
        simp only [World.size_alloc] at h
        exact h)
      go_enter Tryz.func7, Tryz.ntmps7
      go_wp2_with fail
      refine (hgr _ HW.out).mono ?_
      rintro e WN ⟨rfl, hbB⟩
      try clear r0 r1 r2 r3 rL q0 q1 q2 q3 q4 q5 q6 q7 q8 q9 q10 qL
      have HK_ := hide (HK.out.below hbB HK.out.lt)
      have HA_ := hide (HA.out.below hbB HA.out.lt)
      have HW_ := hide (ext HW.out hbB)
      clear HK HA HW
      have HK := HK_
      have HA := HA_
      have HW := HW_
      clear HK_ HA_ HW_
      clear hbB
      have r0 := HK.out.cell 0
      have r1 := HK.out.cell 1
      have r2 := HK.out.cell 2
      have r3 := HK.out.cell 3
      have rL := HK.out.lt
      have q0 := HA.out.cell 0
      have q1 := HA.out.cell 1
      have q2 := HA.out.cell 2
      have q3 := HA.out.cell 3
      have q4 := HA.out.cell 4
      have q5 := HA.out.cell 5
      have q6 := HA.out.cell 6
      have q7 := HA.out.cell 7
      have q8 := HA.out.cell 8
      have q9 := HA.out.cell 9
      have q10 := HA.out.cell 10
      have qL := HA.out.lt
      simp at r0 r1 r2 r3 q0 q1 q2 q3 q4 q5 q6 q7 q8 q9 q10
      clear hgr
      go_wp2_with fail
      refine (hwi _ HW.out).mono ?_
      rintro e WN ⟨rfl, hbB⟩
      try clear r0 r1 r2 r3 rL q0 q1 q2 q3 q4 q5 q6 q7 q8 q9 q10 qL
      have HK_ := hide (HK.out.below hbB HK.out.lt)
      have HA_ := hide (HA.out.below hbB HA.out.lt)
      have HW_ := hide (ext HW.out hbB)
      clear HK HA HW
      have HK := HK_
      have HA := HA_
      have HW := HW_
      clear HK_ HA_ HW_
      clear hbB
      have r0 := HK.out.cell 0
      have r1 := HK.out.cell 1
      have r2 := HK.out.cell 2
      have r3 := HK.out.cell 3
      have rL := HK.out.lt
      have q0 := HA.out.cell 0
      have q1 := HA.out.cell 1
      have q2 := HA.out.cell 2
      have q3 := HA.out.cell 3
      have q4 := HA.out.cell 4
      have q5 := HA.out.cell 5
      have q6 := HA.out.cell 6
      have q7 := HA.out.cell 7
      have q8 := HA.out.cell 8
      have q9 := HA.out.cell 9
      have q10 := HA.out.cell 10
      have qL := HA.out.lt
      simp at r0 r1 r2 r3 q0 q1 q2 q3 q4 q5 q6 q7 q8 q9 q10
      clear hwi
      go_wp2_with fail
      have hh := HWH.out _ HW.out z5 z6
      obtain ⟨y, HY⟩ : ∃ y, Hid (wholeErr n cs z5 z6 = y) := ⟨_, hide rfl⟩
      rw [HY.out] at hh
      refine hh.mono ?_
      rintro e WH ⟨hbB, ⟨h0, rfl⟩ | ⟨h0, h, hE, hC, rfl⟩⟩
      · have hI : (y != 0) = true := by rw [bne_iff_ne]; exact h0
        clear r0 r1 r2 r3 rL q0 q1 q2 q3 q4 q5 q6 q7 q8 q9 q10 qL hh h0
        have HK_ := hide (HK.out.below hbB HK.out.lt)
        have HA_ := hide (HA.out.below hbB HA.out.lt)
        have HW_ := hide (ext HW.out hbB)
        clear HK HA HW
        have HK := HK_
        have HA := HA_
        have HW := HW_
        clear HK_ HA_ HW_
        clear hbB
        go_wp2_with fail
        refine (law_lives _).mono ?_
        rintro e WN ⟨rfl, hbB⟩
        try clear r0 r1 r2 r3 rL q0 q1 q2 q3 q4 q5 q6 q7 q8 q9 q10 qL
        have HK_ := hide (HK.out.below hbB HK.out.lt)
        have HA_ := hide (HA.out.below hbB HA.out.lt)
        have HW_ := hide (ext HW.out hbB)
        clear HK HA HW
        have HK := HK_
        have HA := HA_
        have HW := HW_
        clear HK_ HA_ HW_
        clear hbB
        have r0 := HK.out.cell 0
        have r1 := HK.out.cell 1
        have r2 := HK.out.cell 2
        have r3 := HK.out.cell 3
        have rL := HK.out.lt
        have q0 := HA.out.cell 0
        have q1 := HA.out.cell 1
        have q2 := HA.out.cell 2
        have q3 := HA.out.cell 3
        have q4 := HA.out.cell 4
        have q5 := HA.out.cell 5
        have q6 := HA.out.cell 6
        have q7 := HA.out.cell 7
        have q8 := HA.out.cell 8
        have q9 := HA.out.cell 9
        have q10 := HA.out.cell 10
        have qL := HA.out.lt
        simp at r0 r1 r2 r3 q0 q1 q2 q3 q4 q5 q6 q7 q8 q9 q10
        go_wp2_with fail
        go_ret
        exact ⟨rfl, HW.out⟩
      · subst h0
        have HEF := hide hE
        have HCO := hide hC
        clear r0 r1 r2 r3 rL q0 q1 q2 q3 q4 q5 q6 q7 q8 q9 q10 qL hh hE hC
        have HK_ := hide (HK.out.below hbB HK.out.lt)
        have HA_ := hide (HA.out.below hbB HA.out.lt)
        have HW_ := hide (ext HW.out hbB)
        clear HK HA HW
        have HK := HK_
        have HA := HA_
        have HW := HW_
        clear HK_ HA_ HW_
        clear hbB
        have r0 := HK.out.cell 0
        have r1 := HK.out.cell 1
        have r2 := HK.out.cell 2
        have r3 := HK.out.cell 3
        have rL := HK.out.lt
        have q0 := HA.out.cell 0
        have q1 := HA.out.cell 1
        have q2 := HA.out.cell 2
        have q3 := HA.out.cell 3
        have q4 := HA.out.cell 4
        have q5 := HA.out.cell 5
        have q6 := HA.out.cell 6
        have q7 := HA.out.cell 7
        have q8 := HA.out.cell 8
        have q9 := HA.out.cell 9
        have q10 := HA.out.cell 10
        have qL := HA.out.lt
        simp at r0 r1 r2 r3 q0 q1 q2 q3 q4 q5 q6 q7 q8 q9 q10
        have hwe : n.err = 0 ∧ condErr n cs = 0 ∧ endErr n z5 z6 = 0 := by
          have h0 := HY.out
          unfold wholeErr at h0
          by_cases h3 : askErr n cs = 0
          · rw [if_neg (by rw [h3]; decide)] at h0
            unfold askErr at h3
            by_cases h4 : n.err = 0
            · rw [if_neg (by rw [h4]; decide)] at h3; exact ⟨h4, h3, h0⟩
            · rw [if_pos h4] at h3; exact absurd h3 h4
          · rw [if_pos h3] at h0; exact absurd h0 h3
        have HWE := hide hwe
        have HPO := hide (eff_pos hwe.2.2 HEF.out)
        have HNP := hide (HSZ.out hwe.1).2
        have hsc := Dz.short (whole_short HEF.out HCO.out hwe.2.1 HNP.out) (show 12735 + 108 + 3 < 50000 by omega)
        have HSC := hide hsc
        clear hwe hsc
        generalize hCC : condAt n.pipes.length n.pf n.pt (condOf cs) z5.toNat h = C at HSC HPO ⊢
        have HCC := hide hCC
        clear hCC
        go_wp2_with fail
        refine (HIN.out _ HW.out HWE.out.1 HWE.out.2.1).mono ?_
        rintro e WI ⟨b, rfl, hbi, hbB⟩
        have HBI := hide hbi
        clear r0 r1 r2 r3 rL q0 q1 q2 q3 q4 q5 q6 q7 q8 q9 q10 qL hbi HIN
        have HK_ := hide (HK.out.below hbB HK.out.lt)
        have HA_ := hide (HA.out.below hbB HA.out.lt)
        have HW_ := hide (ext HW.out hbB)
        clear HK HA HW
        have HK := HK_
        have HA := HA_
        have HW := HW_
        clear HK_ HA_ HW_
        clear hbB
        go_upto_if 50 with fail
        go_cut [] from 22 (fun wc => Hid (Below WI.heap.size WI wc))
        case first =>
          skip --f1
          cases b with
          | false =>
            go_wp2_with fail
            go_meet
            exact hide (ext_refl WI)
          | true =>
            have HII := hide (HBI.out rfl)
            have r0 := HK.out.cell 0
            have r1 := HK.out.cell 1
            have r2 := HK.out.cell 2
            have r3 := HK.out.cell 3
            have rL := HK.out.lt
            have q0 := HA.out.cell 0
            have q1 := HA.out.cell 1
            have q2 := HA.out.cell 2
            have q3 := HA.out.cell 3
            have q4 := HA.out.cell 4
            have q5 := HA.out.cell 5
            have q6 := HA.out.cell 6
            have q7 := HA.out.cell 7
            have q8 := HA.out.cell 8
            have q9 := HA.out.cell 9
            have q10 := HA.out.cell 10
            have qL := HA.out.lt
            simp at r0 r1 r2 r3 q0 q1 q2 q3 q4 q5 q6 q7 q8 q9 q10
            go_wp2_with fail
            have hh := HAB.out _ HW.out
            obtain ⟨y1, hy1⟩ : ∃ y, abvErr n z5 z6 gs = y := ⟨_, rfl⟩
            rw [hy1] at hh
            have HTM := hide (fun e W' => told_above (e := e) (w := WI) (w' := W') HEF.out HII.out hy1 HNP.out (fun h => long_common HL1.out h rfl (by omega)))
            refine hh.mono ?_
            intro e WA hret
            obtain ⟨hbB, s2, rfl, hs2⟩ := HTM.out _ _ hret
            rw [HCC.out] at hs2
            have HS2 := hide hs2
            have HNN := hide hbB
            clear hret hs2 hh HTM hy1 r0 r1 r2 r3 rL q0 q1 q2 q3 q4 q5 q6 q7 q8 q9 q10 qL
            have HK_ := hide (HK.out.below hbB HK.out.lt)
            have HA_ := hide (HA.out.below hbB HA.out.lt)
            have HW_ := hide (ext HW.out hbB)
            clear HK HA HW
            have HK := HK_
            have HA := HA_
            have HW := HW_
            clear HK_ HA_ HW_
            clear hbB
            go_upto_region 8 with fail
            go_cut [69] from 62 (fun s wc => s = .bool false ∧ Hid (Below WA.heap.size WA wc))
            case first =>
              by_cases hz : y1 = 0
              · obtain ⟨q, rfl, hq, hle⟩ := HS2.out hz
                subst hz
                have hat := fun w' => at_most w' HSC.out hq
                rw [decide_eq_true hle] at hat
                clear hq hle HS2
                have HN2 := hide (ext_refl WA)
                go_wp2_with fail
                refine (hat _).mono ?_
                rintro e WB ⟨rfl, hbB⟩
                have HNN2 := hide hbB
                clear hat hbB
                go_wp2_with fail
                go_meet
                exact ⟨rfl, HNN2⟩
              · have hI : (y1 == 0) = false := by rw [beq_eq_false_iff_ne]; exact hz
                clear hz HS2
                go_wp2_with fail
                go_meet
                exact ⟨rfl, hide (ext_refl WA)⟩
            case rest =>
              obtain ⟨rfl, HWC2⟩ := hcut
              clear HS2
              have HK_ := hide (HK.out.below HWC2.out HK.out.lt)
              have HA_ := hide (HA.out.below HWC2.out HA.out.lt)
              have HW_ := hide (ext HW.out HWC2.out)
              have HNN_ := hide (ext HNN.out HWC2.out)
              clear HK HA HW HNN
              have HK := HK_
              have HA := HA_
              have HW := HW_
              have HNN := HNN_
              clear HK_ HA_ HW_ HNN_
              have r0 := HK.out.cell 0
              have r1 := HK.out.cell 1
              have r2 := HK.out.cell 2
              have r3 := HK.out.cell 3
              have rL := HK.out.lt
              have q0 := HA.out.cell 0
              have q1 := HA.out.cell 1
              have q2 := HA.out.cell 2
              have q3 := HA.out.cell 3
              have q4 := HA.out.cell 4
              have q5 := HA.out.cell 5
              have q6 := HA.out.cell 6
              have q7 := HA.out.cell 7
              have q8 := HA.out.cell 8
              have q9 := HA.out.cell 9
              have q10 := HA.out.cell 10
              have qL := HA.out.lt
              simp at r0 r1 r2 r3 q0 q1 q2 q3 q4 q5 q6 q7 q8 q9 q10
              go_wp2_with fail
              have hh := HBL.out _ HW.out
              obtain ⟨y2, hy2⟩ : ∃ y, blwErr n z5 z6 fs = y := ⟨_, rfl⟩
              rw [hy2] at hh
              have HTM := hide (fun e W' => told_below (e := e) (w := wc) (w' := W') HEF.out (by rw [HCC.out]; exact HPO.out) HII.out hy2 HNP.out (fun h => long_common HL2.out h rfl (by omega)))
              refine hh.mono ?_
              intro e WB hret
              obtain ⟨hbB, s2, rfl, hs2⟩ := HTM.out _ _ hret
              rw [HCC.out] at hs2
              have HS2 := hide hs2
              clear hret hs2 hh HTM hy2 r0 r1 r2 r3 rL q0 q1 q2 q3 q4 q5 q6 q7 q8 q9 q10 qL
              have HK_ := hide (HK.out.below hbB HK.out.lt)
              have HA_ := hide (HA.out.below hbB HA.out.lt)
              have HW_ := hide (ext HW.out hbB)
              have HNN_ := hide (ext HNN.out hbB)
              clear HK HA HW HNN
              have HK := HK_
              have HA := HA_
              have HW := HW_
              have HNN := HNN_
              clear HK_ HA_ HW_ HNN_
              clear hbB
              by_cases hz : y2 = 0
              · obtain ⟨q, rfl, hq, hle⟩ := HS2.out hz
                subst hz
                have hat := fun w' => at_most w' hq HSC.out
                rw [decide_eq_true hle] at hat
                clear hq hle HS2
                go_wp2_with fail
                refine (hat _).mono ?_
                rintro e WD ⟨rfl, hbB⟩
                have HN2 := hide (ext HNN.out hbB)
                clear hat hbB
                go_wp2_with fail
                go_meet
                exact HN2
              · have hI : (y2 == 0) = false := by rw [beq_eq_false_iff_ne]; exact hz
                clear hz HS2
                go_wp2_with fail
                go_meet
                exact HNN
        case rest =>
          have HWC2 := hcut
          clear hcut HBI HAB HBL
          have HK_ := hide (HK.out.below HWC2.out HK.out.lt)
          have HA_ := hide (HA.out.below HWC2.out HA.out.lt)
          have HW_ := hide (ext HW.out HWC2.out)
          clear HK HA HW
          have HK := HK_
          have HA := HA_
          have HW := HW_
          clear HK_ HA_ HW_
          clear HWC2
          have r0 := HK.out.cell 0
          have r1 := HK.out.cell 1
          have r2 := HK.out.cell 2
          have r3 := HK.out.cell 3
          have rL := HK.out.lt
          have q0 := HA.out.cell 0
          have q1 := HA.out.cell 1
          have q2 := HA.out.cell 2
          have q3 := HA.out.cell 3
          have q4 := HA.out.cell 4
          have q5 := HA.out.cell 5
          have q6 := HA.out.cell 6
          have q7 := HA.out.cell 7
          have q8 := HA.out.cell 8
          have q9 := HA.out.cell 9
          have q10 := HA.out.cell 10
          have qL := HA.out.lt
          simp at r0 r1 r2 r3 q0 q1 q2 q3 q4 q5 q6 q7 q8 q9 q10
          obtain ⟨an, ha, bn, hb⟩ : ∃ an : Nat, z5 = (an : Int) ∧ ∃ bn : Nat, z6 = (bn : Int) := by
            obtain ⟨e1, e2, e3, e4, _⟩ := endErr_ok HWE.out.2.2
            exact ⟨z5.toNat, by omega, z6.toNat, by omega⟩
          subst ha
          subst hb
          have HE0 : Hid (Eff n.nodes.length n.pipes.length n.pf n.pt (condOf cs) an bn h) := hide (by have h1 := HEF.out; rw [Int.toNat_natCast, Int.toNat_natCast] at h1; exact h1)
          have HC9 : Hid (condAt n.pipes.length n.pf n.pt (condOf cs) an h = C) := hide (by have h1 := HCC.out; rw [Int.toNat_natCast] at h1; exact h1)
          have HNN9 := hide (HSZ.out HWE.out.1).1
          skip --n1
          go_upto_region 14 with fail
          have HMB := hide (Blk.new wc 26 #[.slice A0 k0 c0, .slice A1 k1 c1, .slice A2 k2 c2, .slice A3 k3 c3])
          have HWM := hide (ext_alloc wc (.cells #[.slice A0 k0 c0, .slice A1 k1 c1, .slice A2 k2 c2, .slice A3 k3 c3] 26))
          clear r0 r1 r2 r3 rL q0 q1 q2 q3 q4 q5 q6 q7 q8 q9 q10 qL
          have HKC := HK
          have HAC := HA
          have HWC := HW
          obtain ⟨mb, hmb⟩ : ∃ mb, mb = wc.heap.size := ⟨_, rfl⟩
          have HMB0 := hide hmb
          rw [← hmb] at HMB ⊢
          clear hmb
          generalize wc.alloc (.cells #[.slice A0 k0 c0, .slice A1 k1 c1, .slice A2 k2 c2, .slice A3 k3 c3] 26) = WM at HMB HWM ⊢
          have HK_ := hide (HK.out.below HWM.out HK.out.lt)
          have HA_ := hide (HA.out.below HWM.out HA.out.lt)
          have HW_ := hide (ext HW.out HWM.out)
          clear HK HA HW
          have HK := HK_
          have HA := HA_
          have HW := HW_
          clear HK_ HA_ HW_
          have r0 := HK.out.cell 0
          have r1 := HK.out.cell 1
          have r2 := HK.out.cell 2
          have r3 := HK.out.cell 3
          have rL := HK.out.lt
          have q0 := HA.out.cell 0
          have q1 := HA.out.cell 1
          have q2 := HA.out.cell 2
          have q3 := HA.out.cell 3
          have q4 := HA.out.cell 4
          have q5 := HA.out.cell 5
          have q6 := HA.out.cell 6
          have q7 := HA.out.cell 7
          have q8 := HA.out.cell 8
          have q9 := HA.out.cell 9
          have q10 := HA.out.cell 10
          have qL := HA.out.lt
          simp at r0 r1 r2 r3 q0 q1 q2 q3 q4 q5 q6 q7 q8 q9 q10
          obtain ⟨i0, hi0, hz0, hz1, hz2⟩ := info_parts infoPipe
          have hra : Reads WM WM.heap.size 5 A1 k1 (pipesCells n.pipes) := by
            obtain ⟨A', c', e, _, _, _, hr, _⟩ := HN1.out.below HW.out
            injection e with f1 f2 f3
            subst f1
            rw [f2]; exact hr
          have hk9 : k1 ≤ 9 := by have := HNP.out; have := HK1.out; omega
          have H1C := hide (pipesCells_one n.pipes)
          go_wp2_with (at_builtin; refine wpList_append_any _ rfl (.const (.slice none 0 0)) (.tmp 91) _ rfl WM.heap.size 47 i0 _ 5 64 Tryz.underlying23 hi0 hz0 hz1 hz2 rfl (by omega) _ 0 [] rfl (World.ownsRow_nil _ _ _ _) _ A1 k1 c1 _ rfl hra H1C.out ?o2 ?o3 ?o4 ?_)
          case o2 => unfold maxLen; omega
          case o3 => omega
          case o4 => exact Nat.le_refl _
          intro v3 w3 hown3 hgr3 hat3
          try rw [Nat.zero_add, List.nil_append] at hown3
          have hb3 : Below WM.heap.size WM w3 := (ext_refl _).grown hgr3 (Nat.le_refl _) (by intro k hk; simp [Value.ownBlock] at hk)
          clear r0 r1 r2 r3 rL q0 q1 q2 q3 q4 q5 q6 q7 q8 q9 q10 qL hra
          have hmb3 := HMB.out.below hb3 HMB.out.lt
          have hml := HMB.out.lt
          have HK_ := hide (HK.out.below hb3 HK.out.lt)
          have HA_ := hide (HA.out.below hb3 HA.out.lt)
          have HW_ := hide (ext HW.out hb3)
          clear HK HA HW
          have HK := HK_
          have HA := HA_
          have HW := HW_
          clear HK_ HA_ HW_
          obtain ⟨g, cg, rest3, rfl, hg1, _, hI1, hcg1, hcg2⟩ := own_pipes hown3 (by have := eff_some (c := condOf cs) (pf := n.pf) (pt := n.pt) (h := h) (a := an) (by rw [HC9.out]; exact HPO.out); have := HK1.out; omega)
          have HGM : Hid (mb < g) := hide (by omega)
          have HCG1 := hide (And.intro hcg1 hcg2)
          have HI1 := hide hI1
          have HMB3 := hide hmb3
          have HB3 := hide (ext HWM.out hb3)
          clear hown3 hgr3 hat3 hb3 hI1 hcg1 hcg2 hg1 hmb3 hml hi0 hz0 hz1 hz2 HMB HWM
          have s1 := HMB3.out.cell 1
          have f1 := HMB3.out.frozen 1
          have sL := HMB3.out.lt
          simp at s1
          go_wp2_with fail
          have HMB4 : Hid (Blk (w3.setCell ⟨mb, 1, none⟩ (.slice (some ⟨g, 0, none⟩) k1 cg)) mb 26 #[.slice A0 k0 c0, .slice (some ⟨g, 0, none⟩) k1 cg, .slice A2 k2 c2, .slice A3 k3 c3]) := hide (HMB3.out.set_ 1 (.slice (some ⟨g, 0, none⟩) k1 cg))
          have HI2 : Hid (PipBlk (w3.setCell ⟨mb, 1, none⟩ (.slice (some ⟨g, 0, none⟩) k1 cg)) g (onePipes n.pipes cs 0) rest3) := hide (by rw [onePipes_zero]; exact HI1.out.far (p := ⟨mb, 1, none⟩) (show g ≠ mb by have := HGM.out; omega) _)
          have HB4 := hide (HB3.out.setCell (p := ⟨mb, 1, none⟩) (show wc.heap.size ≤ mb by have := HMB0.out; omega) (.slice (some ⟨g, 0, none⟩) k1 cg))
          clear s1 f1 sL HI1 HMB3
          clear HK HA HW
          generalize w3.setCell ⟨mb, 1, none⟩ (.slice (some ⟨g, 0, none⟩) k1 cg) = W4 at HMB4 HI2 HB4 ⊢
          have HQM : Hid (w.heap.size + 1 < mb) := hide (by have := HAC.out.lt; have := HMB0.out; omega)
          have HKS : Hid (∀ q ∈ n.pipes, SmallS q.name ∧ SmallS q.low ∧ SmallS q.high) := hide (by obtain ⟨A', c', e, _, _, _, _, hr⟩ := HN1.out; exact hr)
          go_loopw [12] (OneR n.pipes cs g mb rest3 [.slice A0 k0 c0, .slice (some ⟨g, 0, none⟩) k1 cg, .slice A2 k2 c2, .slice A3 k3 c3] wc) (fun iv _ => k1 - (intOf iv).toNat)
          case atStart => exact ⟨0, Nat.zero_le _, rfl, HI2, HMB4, HB4⟩
          case round =>
            clear HI2 HMB4 HB4
            obtain ⟨i, hi, rfl, HI2, HMB4, HB4⟩ := hrel
            have s1 := HMB4.out.cell 1
            have sL := HMB4.out.lt
            simp at s1
            by_cases hil : i < k1
            · have hin : i < n.pipes.length := by have := HK1.out; omega
              have hii : (i : Int) < (k1 : Int) := by omega
              have hic : i < cs.length := by have := (cond_get HWE.out.2.1).1; omega
              obtain ⟨ac, e2, lc, qc⟩ := cond_at HC0.out (by have := HM0.out; omega : i < cs.length)
              subst e2
              have qc := ((ext HWC.out HB4.out).cell (by rw [block_of_add]; exact lc)).trans qc
              have hmi : (i : Int) < (m0 : Int) := by have := HM0.out; omega
              have q0 := (HAC.out.below HB4.out HAC.out.lt).cell 0
              have qL := Nat.lt_of_lt_of_le HAC.out.lt HB4.out.size
              simp at q0
              have hgl := HI2.out.lt
              have hpl : i < (onePipes n.pipes cs i).length := by rw [onePipes_length]; exact hin
              have c3' := (HI2.out.cell hpl).1
              have c4' := (HI2.out.cell hpl).2
              have f3' := HI2.out.frozen (5 * i + 3)
              have f4' := HI2.out.frozen (5 * i + 4)
              have e9 : cs.getD i [] = cs[i] := by simp [List.getD, List.getElem?_eq_getElem hic]
              have HPS := hide (fun (W : World) (h : PipBlk W g (onePipes n.pipes cs i) rest3) => PipBlk.one h hin e9)
              have hd1 : ¬ g = mb := by have := HGM.out; omega
              have hd2 : ¬ g = w.heap.size + 1 := by have := HGM.out; have := HQM.out; omega
              have hd3 : ¬ g = ac.block := by have := HGM.out; have := HMB0.out; have := HWC.out.size; omega
              have hd4 : ¬ g = (ac.add i).block := by rw [block_of_add]; exact hd3
              have hd5 : ¬ (ac.add i).block = g := fun h => hd4 h.symm
              clear e9
              generalize cs[i] = xc at qc HPS
              generalize (onePipes n.pipes cs i)[i].low = xl at c3'
              generalize (onePipes n.pipes cs i)[i].high = xh at c4'
              rw [Nat.mul_comm 5 i] at c3' c4' f3' f4'
              go_wp2_with fail
              go_region_held3 (fun w' => w'.cell? ⟨mb, 1, none⟩ = some (.slice (some ⟨g, 0, none⟩) k1 cg) ∧ w'.cell? ⟨w.heap.size + 1, 0, none⟩ = some (.slice (some ac) m0 d0) ∧ w'.cell? (ac.add i) = some (str xc))
                (first | go_keep | (go_split_ands; exact ⟨by simp [*], by simp [*], by simp [World.cell?_setCell_other, *]⟩))
                (fail)
              have HI3 : Hid (PipBlk ((wr.setCell ⟨g, i * 5 + 3, none⟩ (.string ⟨xc.toArray⟩)).setCell ⟨g, i * 5 + 4, none⟩ (.string ⟨xc.toArray⟩)).drew g (onePipes n.pipes cs (i + 1)) rest3) := hide (HPS.out _ HI2.out)
              have HMB5 : Hid (Blk ((wr.setCell ⟨g, i * 5 + 3, none⟩ (.string ⟨xc.toArray⟩)).setCell ⟨g, i * 5 + 4, none⟩ (.string ⟨xc.toArray⟩)).drew mb 26 #[.slice A0 k0 c0, .slice (some ⟨g, 0, none⟩) k1 cg, .slice A2 k2 c2, .slice A3 k3 c3]) := hide ((HMB4.out.far (p := ⟨g, i * 5 + 3, none⟩) (fun h => hd1 h.symm) _).far (p := ⟨g, i * 5 + 4, none⟩) (fun h => hd1 h.symm) _)
              have HB5 : Hid (Below wc.heap.size wc ((wr.setCell ⟨g, i * 5 + 3, none⟩ (.string ⟨xc.toArray⟩)).setCell ⟨g, i * 5 + 4, none⟩ (.string ⟨xc.toArray⟩)).drew) := hide (below_drewN ((HB4.out.setCell (p := ⟨g, i * 5 + 3, none⟩) (show wc.heap.size ≤ g by have := HGM.out; have := HMB0.out; omega) _).setCell (p := ⟨g, i * 5 + 4, none⟩) (show wc.heap.size ≤ g by have := HGM.out; have := HMB0.out; omega) _) 1)
              go_split_ands
              generalize ((wr.setCell ⟨g, i * 5 + 3, none⟩ (.string ⟨xc.toArray⟩)).setCell ⟨g, i * 5 + 4, none⟩ (.string ⟨xc.toArray⟩)).drew = W5 at *
              clear s1 sL c3' c4' f3' f4' qc q0 qL hd1 hd2 hd3 hd4 hd5
              go_wp2_with fail
              go_round
              case rel => exact ⟨i + 1, by omega, by go_num, HI3, HMB5, HB5⟩
              case measure => simp [intOf]; omega
            · obtain rfl : k1 = i := by have := HK1.out; omega
              have HI3 : Hid (PipBlk wr g (onePipes n.pipes cs n.pipes.length) rest3) := hide (by rw [← HK1.out]; exact HI2.out)
              have s2 := HMB4.out.cell 2
              have s3 := HMB4.out.cell 3
              have f2 := HMB4.out.frozen 2
              have f3 := HMB4.out.frozen 3
              simp at s2 s3
              have q5 := (HAC.out.below HB4.out HAC.out.lt).cell 5
              have q6 := (HAC.out.below HB4.out HAC.out.lt).cell 6
              have qL := Nat.lt_of_lt_of_le HAC.out.lt HB4.out.size
              simp at q5 q6
              have hd2 : ¬ mb = w.heap.size + 1 := by have := HQM.out; omega
              go_upto_region 21 with fail
              obtain ⟨lb, hlb⟩ : ∃ lb, lb = wr.heap.size := ⟨_, rfl⟩
              rw [← hlb]
              have hLV : Blk (((wr.setCell ⟨mb, 3, none⟩ (.slice none 0 0)).setCell ⟨mb, 2, none⟩ (.slice (some ⟨lb, 0, none⟩) 2 2)).alloc (.cells #[.int .i64 an, .string ⟨#[49]⟩, .int .i64 bn, .string ⟨#[48]⟩] 49)) lb 49 #[.int .i64 an, .string ⟨#[49]⟩, .int .i64 bn, .string ⟨#[48]⟩] := by
                have h1 := Blk.new ((wr.setCell ⟨mb, 3, none⟩ (.slice none 0 0)).setCell ⟨mb, 2, none⟩ (.slice (some ⟨lb, 0, none⟩) 2 2)) 49 #[.int .i64 an, .string ⟨#[49]⟩, .int .i64 bn, .string ⟨#[48]⟩]
                simp only [World.size_setCell] at h1
                rw [← hlb] at h1
                exact h1
              have hMB6 : Blk (((wr.setCell ⟨mb, 3, none⟩ (.slice none 0 0)).setCell ⟨mb, 2, none⟩ (.slice (some ⟨lb, 0, none⟩) 2 2)).alloc (.cells #[.int .i64 an, .string ⟨#[49]⟩, .int .i64 bn, .string ⟨#[48]⟩] 49)) mb 26 #[.slice A0 k0 c0, .slice (some ⟨g, 0, none⟩) k1 cg, .slice (some ⟨lb, 0, none⟩) 2 2, .slice none 0 0] := ((HMB4.out.set_ 3 (.slice none 0 0)).set_ 2 (.slice (some ⟨lb, 0, none⟩) 2 2)).alloc _
              have hI4 : PipBlk (((wr.setCell ⟨mb, 3, none⟩ (.slice none 0 0)).setCell ⟨mb, 2, none⟩ (.slice (some ⟨lb, 0, none⟩) 2 2)).alloc (.cells #[.int .i64 an, .string ⟨#[49]⟩, .int .i64 bn, .string ⟨#[48]⟩] 49)) g (onePipes n.pipes cs n.pipes.length) rest3 :=
                ((HI3.out.far (p := ⟨mb, 3, none⟩) (show g ≠ mb by have := HGM.out; omega) _).far (p := ⟨mb, 2, none⟩) (show g ≠ mb by have := HGM.out; omega) _).alloc _
              have hB6 : Below wc.heap.size wc (((wr.setCell ⟨mb, 3, none⟩ (.slice none 0 0)).setCell ⟨mb, 2, none⟩ (.slice (some ⟨lb, 0, none⟩) 2 2)).alloc (.cells #[.int .i64 an, .string ⟨#[49]⟩, .int .i64 bn, .string ⟨#[48]⟩] 49)) :=
                ext ((HB4.out.setCell (p := ⟨mb, 3, none⟩) (show wc.heap.size ≤ mb by have := HMB0.out; omega) _).setCell (p := ⟨mb, 2, none⟩) (show wc.heap.size ≤ mb by have := HMB0.out; omega) _) (ext_alloc _ _)
              have HLV := hide hLV
              have HMB6 := hide hMB6
              have HI4 := hide hI4
              have HB6 := hide hB6
              clear hLV hMB6 hI4 hB6 hlb s1 s2 s3 f2 f3 sL q5 q6 qL hd2 HI2 HI3 HMB4 HB4
              generalize ((wr.setCell ⟨mb, 3, none⟩ (.slice none 0 0)).setCell ⟨mb, 2, none⟩ (.slice (some ⟨lb, 0, none⟩) 2 2)).alloc (.cells #[.int .i64 an, .string ⟨#[49]⟩, .int .i64 bn, .string ⟨#[48]⟩] 49) = WS at HLV HMB6 HI4 HB6 ⊢
              have HW := hide (ext HWC.out HB6.out)
              have HK := hide (HKC.out.below HB6.out HKC.out.lt)
              have HA := hide (HAC.out.below HB6.out HAC.out.lt)
              have HNM : Hid (NetIs WS (.agg #[.slice A0 k0 c0, .slice (some ⟨g, 0, none⟩) k1 cg, .slice (some ⟨lb, 0, none⟩) 2 2, .slice none 0 0]) (oneNet n cs an bn)) := hide (by
                have hnn := HN0.out.below HW.out
                have hpp := HI4.out.pipes (n := k1) (c := cg) (by rw [onePipes_length]; exact HK1.out) HCG1.out.1 HCG1.out.2 (by
                  intro p hp
                  obtain ⟨j, hj, rfl⟩ := List.mem_iff_getElem.1 hp
                  rw [onePipes_get, if_pos (by rw [onePipes_length] at hj; exact hj)]
                  have hj2 : j < n.pipes.length := by rw [onePipes_length] at hj; exact hj
                  have hjc : j < cs.length := by have := (cond_get HWE.out.2.1).1; omega
                  have hm : n.pipes.getD j default ∈ n.pipes := by rw [List.getD_eq_getElem?_getD, List.getElem?_eq_getElem hj2]; exact List.getElem_mem hj2
                  have hcm : SmallS (cs.getD j []) := by
                    obtain ⟨A', c', e, _, _, _, _, hr⟩ := HC0.out
                    rw [List.getD_eq_getElem?_getD, List.getElem?_eq_getElem hjc]; exact hr _ (List.getElem_mem hjc)
                  exact ⟨(HKS.out _ hm).1, hcm, hcm⟩) (by rw [onePipes_length]; have := HNP.out; omega)
                exact ⟨A0, k0, c0, some ⟨g, 0, none⟩, k1, cg, some ⟨lb, 0, none⟩, 2, 2, none, 0, 0, rfl, hnn, hpp, lev_is HLV.out, lev_nil WS⟩)
              clear HLV HI4 HB6 HKS
              have r0 := HK.out.cell 0
              have r1 := HK.out.cell 1
              have r2 := HK.out.cell 2
              have r3 := HK.out.cell 3
              have rL := HK.out.lt
              have q0 := HA.out.cell 0
              have q1 := HA.out.cell 1
              have q2 := HA.out.cell 2
              have q3 := HA.out.cell 3
              have q4 := HA.out.cell 4
              have q5 := HA.out.cell 5
              have q6 := HA.out.cell 6
              have q7 := HA.out.cell 7
              have q8 := HA.out.cell 8
              have q9 := HA.out.cell 9
              have q10 := HA.out.cell 10
              have qL := HA.out.lt
              have s0 := HMB6.out.cell 0
              have s1 := HMB6.out.cell 1
              have s2 := HMB6.out.cell 2
              have s3 := HMB6.out.cell 3
              have sL := HMB6.out.lt
              simp at r0 r1 r2 r3 q0 q1 q2 q3 q4 q5 q6 q7 q8 q9 q10 s0 s1 s2 s3
              go_wp2_with fail
              have hszm : (oneNet n cs an bn).err = 0 → (oneNet n cs an bn).nodes.length ≤ 6 ∧ (oneNet n cs an bn).pipes.length ≤ 9 := fun _ => ⟨HNN9.out, by rw [one_np]; exact HNP.out⟩
              have HSM := hide hszm
              have hh := water_Heads _ _ (oneNet n cs an bn) cs WS HNM.out (HC0.out.below HW.out) hszm
              obtain ⟨y2, HY2⟩ : ∃ y, Hid (askErr (oneNet n cs an bn) cs = y) := ⟨_, hide rfl⟩
              unfold RetHeads at hh
              rw [HY2.out] at hh
              refine hh.mono ?_
              rintro e WH2 ⟨hbB, ⟨h0, rfl⟩ | ⟨h0, A9, cap9, h9, rfl, hcap, hIs, hdz, hrd⟩⟩
              · have hy9 : y2 = 9 := by
                  have h1 := HY2.out
                  unfold askErr at h1
                  rw [one_cond, HWE.out.2.1] at h1
                  rcases one_err (a := an) (b := bn) HWE.out.1 HWE.out.2.1 HWE.out.2.2 with h2 | h2
                  · rw [if_neg (by rw [h2]; simp)] at h1; exact absurd h1.symm h0
                  · rw [if_pos (by rw [h2]; decide), h2] at h1; exact h1.symm
                subst hy9
                clear r0 r1 r2 r3 rL q0 q1 q2 q3 q4 q5 q6 q7 q8 q9 q10 qL s0 s1 s2 s3 sL hh h0 hszm
                have HK_ := hide (HK.out.below hbB HK.out.lt)
                have HA_ := hide (HA.out.below hbB HA.out.lt)
                have HMB6_ := hide (HMB6.out.below hbB HMB6.out.lt)
                have HW_ := hide (ext HW.out hbB)
                have HNM_ := hide (HNM.out.below hbB)
                clear HK HA HMB6 HW HNM
                have HK := HK_
                have HA := HA_
                have HMB6 := HMB6_
                have HW := HW_
                have HNM := HNM_
                clear HK_ HA_ HMB6_ HW_ HNM_
                clear hbB
                go_wp2_with fail
                refine (law_lives _).mono ?_
                rintro e WN ⟨rfl, hbB⟩
                try clear r0 r1 r2 r3 rL q0 q1 q2 q3 q4 q5 q6 q7 q8 q9 q10 qL s0 s1 s2 s3 sL
                have HK_ := hide (HK.out.below hbB HK.out.lt)
                have HA_ := hide (HA.out.below hbB HA.out.lt)
                have HMB6_ := hide (HMB6.out.below hbB HMB6.out.lt)
                have HW_ := hide (ext HW.out hbB)
                have HNM_ := hide (HNM.out.below hbB)
                clear HK HA HMB6 HW HNM
                have HK := HK_
                have HA := HA_
                have HMB6 := HMB6_
                have HW := HW_
                have HNM := HNM_
                clear HK_ HA_ HMB6_ HW_ HNM_
                clear hbB
                have r0 := HK.out.cell 0
                have r1 := HK.out.cell 1
                have r2 := HK.out.cell 2
                have r3 := HK.out.cell 3
                have rL := HK.out.lt
                have q0 := HA.out.cell 0
                have q1 := HA.out.cell 1
                have q2 := HA.out.cell 2
                have q3 := HA.out.cell 3
                have q4 := HA.out.cell 4
                have q5 := HA.out.cell 5
                have q6 := HA.out.cell 6
                have q7 := HA.out.cell 7
                have q8 := HA.out.cell 8
                have q9 := HA.out.cell 9
                have q10 := HA.out.cell 10
                have qL := HA.out.lt
                have s0 := HMB6.out.cell 0
                have s1 := HMB6.out.cell 1
                have s2 := HMB6.out.cell 2
                have s3 := HMB6.out.cell 3
                have sL := HMB6.out.lt
                simp at r0 r1 r2 r3 q0 q1 q2 q3 q4 q5 q6 q7 q8 q9 q10 s0 s1 s2 s3
                go_wp2_with fail
                go_ret
                exact ⟨rfl, HW.out⟩
              · subst h0
                have hm0 : (oneNet n cs an bn).err = 0 := by
                  have h1 := HY2.out
                  unfold askErr at h1
                  by_cases h2 : (oneNet n cs an bn).err = 0
                  · exact h2
                  · rw [if_pos h2] at h1; exact absurd h1 h2
                have HM0' := hide hm0
                have HIS := hide hIs
                have HE9 := hide (one_eff hm0 HWE.out.1 HWE.out.2.1 HWE.out.2.2 hIs)
                have HGV := hide (given_of hm0 (by rw [one_cond]; exact HWE.out.2.1) HNN9.out (by rw [one_np]; exact HNP.out))
                have HC19 : Hid (condAt n.pipes.length n.pf n.pt (condOf cs) an h9 = C) := hide (by rw [← HC9.out]; exact HE9.out.same HE0.out)
                have HRD : Hid (RowT WH2 A9 n.nodes.length fun k => str (fracText (h9 k))) := hide hrd
                have hcap' : cap9 = k0 := by rw [hcap]; exact HK0.out.symm
                subst hcap'
                rw [show (oneNet n cs an bn).nodes.length = cap9 from HK0.out.symm]
                clear r0 r1 r2 r3 rL q0 q1 q2 q3 q4 q5 q6 q7 q8 q9 q10 qL s0 s1 s2 s3 sL hh hszm hm0 hIs hdz hrd hcap
                have HK_ := hide (HK.out.below hbB HK.out.lt)
                have HA_ := hide (HA.out.below hbB HA.out.lt)
                have HMB6_ := hide (HMB6.out.below hbB HMB6.out.lt)
                have HW_ := hide (ext HW.out hbB)
                have HNM_ := hide (HNM.out.below hbB)
                clear HK HA HMB6 HW HNM
                have HK := HK_
                have HA := HA_
                have HMB6 := HMB6_
                have HW := HW_
                have HNM := HNM_
                clear HK_ HA_ HMB6_ HW_ HNM_
                clear hbB
                have r0 := HK.out.cell 0
                have r1 := HK.out.cell 1
                have r2 := HK.out.cell 2
                have r3 := HK.out.cell 3
                have rL := HK.out.lt
                have q0 := HA.out.cell 0
                have q1 := HA.out.cell 1
                have q2 := HA.out.cell 2
                have q3 := HA.out.cell 3
                have q4 := HA.out.cell 4
                have q5 := HA.out.cell 5
                have q6 := HA.out.cell 6
                have q7 := HA.out.cell 7
                have q8 := HA.out.cell 8
                have q9 := HA.out.cell 9
                have q10 := HA.out.cell 10
                have qL := HA.out.lt
                have s0 := HMB6.out.cell 0
                have s1 := HMB6.out.cell 1
                have s2 := HMB6.out.cell 2
                have s3 := HMB6.out.cell 3
                have sL := HMB6.out.lt
                simp at r0 r1 r2 r3 q0 q1 q2 q3 q4 q5 q6 q7 q8 q9 q10 s0 s1 s2 s3
                go_wp2_with fail
                skip --n3
                have HKW := HK
                have HAW := HA
                have HMW := HMB6
                have HWW := HW
                have HNW := HNM
                have HXX := hide (ext_refl WH2)
                have hh := water_FlowsO _ _ (oneNet n cs an bn) cs _ HNM.out (HC0.out.below HW.out) HSM.out
                unfold RetFlowsO at hh
                rw [HY2.out] at hh
                refine hh.mono ?_
                rintro e WF ⟨hbB, ⟨h1, rfl⟩ | ⟨_, A7, cap7, h7, B7, rfl, hIs7, hB7, ho7⟩⟩
                · exact absurd rfl h1
                have hsame := NetHeads.same HGV.out hIs7 HIS.out
                have hnpos : 0 < k1 := by have := eff_some (c := condOf cs) (pf := n.pf) (pt := n.pt) (h := h) (a := an) (by rw [HC9.out]; exact HPO.out); have := HK1.out; omega
                have e7 : (oneNet n cs an bn).pipes.length = k1 := by rw [one_np]; exact HK1.out.symm
                have et : ((List.range k1).map fun i => str (fracText (flowAt (oneNet n cs an bn) cs h7 i))) = (divT (flowAt n cs h9) (unitOf n cs h9 C) k1 0).map str := by
                  unfold divT
                  rw [List.map_map]
                  refine List.map_congr_left fun j hj => ?_
                  have hj2 : j < n.pipes.length := by have := List.mem_range.1 hj; have := HK1.out; omega
                  show str _ = str (fracText (if j < 0 then unitOf n cs h9 C j else flowAt n cs h9 j))
                  rw [if_neg (by omega)]
                  unfold flowAt
                  rw [one_pf, one_pt, hsame _ (HE9.out.piped.from_lt j hj2), hsame _ (HE9.out.piped.to_lt j hj2)]
                rw [e7] at ho7 ⊢
                rw [et] at ho7
                obtain ⟨g7, c7, rest7, hv7, hg7, hl7, hT7, hc71, hc72⟩ := own_texts ho7 hnpos
                have HB7 := hide hB7
                injection hv7 with f1 _ f3
                subst f1
                subst f3
                have HT7 := hide hT7
                have HC7 := hide (And.intro hc71 hc72)
                have HG7 : Hid (WH2.heap.size ≤ g7) := hide (by have := HB7.out; omega)
                clear r0 r1 r2 r3 rL q0 q1 q2 q3 q4 q5 q6 q7 q8 q9 q10 qL s0 s1 s2 s3 sL hh hIs7 hB7 ho7 hsame et hl7 hT7 hc71 hc72 hg7
                have HK_ := hide (HK.out.below hbB HK.out.lt)
                have HA_ := hide (HA.out.below hbB HA.out.lt)
                have HMB6_ := hide (HMB6.out.below hbB HMB6.out.lt)
                have HW_ := hide (ext HW.out hbB)
                have HNM_ := hide (HNM.out.below hbB)
                have HRD_ := hide (HRD.out.below hbB)
                have HXX_ := hide (ext HXX.out hbB)
                clear HK HA HMB6 HW HNM HRD HXX
                have HK := HK_
                have HA := HA_
                have HMB6 := HMB6_
                have HW := HW_
                have HNM := HNM_
                have HRD := HRD_
                have HXX := HXX_
                clear HK_ HA_ HMB6_ HW_ HNM_ HRD_ HXX_
                clear hbB
                have r0 := HK.out.cell 0
                have r1 := HK.out.cell 1
                have r2 := HK.out.cell 2
                have r3 := HK.out.cell 3
                have rL := HK.out.lt
                have q0 := HA.out.cell 0
                have q1 := HA.out.cell 1
                have q2 := HA.out.cell 2
                have q3 := HA.out.cell 3
                have q4 := HA.out.cell 4
                have q5 := HA.out.cell 5
                have q6 := HA.out.cell 6
                have q7 := HA.out.cell 7
                have q8 := HA.out.cell 8
                have q9 := HA.out.cell 9
                have q10 := HA.out.cell 10
                have qL := HA.out.lt
                have s0 := HMB6.out.cell 0
                have s1 := HMB6.out.cell 1
                have s2 := HMB6.out.cell 2
                have s3 := HMB6.out.cell 3
                have sL := HMB6.out.lt
                simp at r0 r1 r2 r3 q0 q1 q2 q3 q4 q5 q6 q7 q8 q9 q10 s0 s1 s2 s3
                obtain ⟨S, HTR⟩ : ∃ S, Hid (Terms n.nodes.length n.pipes.length (condOf cs) h9 S 12843) := by
                  have h1 := HGV.out.terms HIS.out
                  rw [one_np] at h1
                  exact h1
                have HCM : Hid (Common n.nodes.length h9 12735) := hide (HGV.out.commonE HIS.out)
                have HSH : Hid (∀ k, k < n.nodes.length → Short 50000 (h9 k)) := hide (fun k hk => Dz.short (HCM.out.get hk) (by omega))
                have hnd := HRD.out.nodes HSH.out (by have := HNN9.out; omega)
                rw [← HK0.out] at hnd
                go_wp2_with fail
                have hh := water_Above _ (.slice A9 cap9 cap9) (oneNet n cs an bn) an bn (headTexts cap9 h9) _ HNM.out hnd HSM.out (fun _ => by
                  have h1 := HCM.out
                  rw [HK0.out]
                  obtain ⟨T, t1, t2, t3⟩ := h1
                  exact ⟨T, t1, t2, fun k hk => by rw [head_cond HSH.out hk]; exact t3 k hk⟩)
                have hab := one_abv HM0'.out HWE.out.2.2 HE9.out HSH.out
                rw [← HK0.out] at hab
                unfold RetAbv at hh
                rw [hab.1, hab.2, HC19.out] at hh
                refine hh.mono ?_
                rintro e WA ⟨hbB, ⟨h1, rfl⟩ | ⟨_, rfl⟩⟩
                · exact absurd rfl h1
                clear r0 r1 r2 r3 rL q0 q1 q2 q3 q4 q5 q6 q7 q8 q9 q10 qL s0 s1 s2 s3 sL hh hab hnd
                have HK_ := hide (HK.out.below hbB HK.out.lt)
                have HA_ := hide (HA.out.below hbB HA.out.lt)
                have HMB6_ := hide (HMB6.out.below hbB HMB6.out.lt)
                have HW_ := hide (ext HW.out hbB)
                have HNM_ := hide (HNM.out.below hbB)
                have HT7_ := hide (HT7.out.below hbB)
                have HXX_ := hide (ext HXX.out hbB)
                clear HK HA HMB6 HW HNM HT7 HXX
                have HK := HK_
                have HA := HA_
                have HMB6 := HMB6_
                have HW := HW_
                have HNM := HNM_
                have HT7 := HT7_
                have HXX := HXX_
                clear HK_ HA_ HMB6_ HW_ HNM_ HT7_ HXX_
                clear hbB HRD
                have hxx : (fracText C == fracText C) = true := by simp
                have hxx2 : (fracText C != fracText C) = false := by simp
                go_wp2_with fail
                clear hxx hxx2
                skip --n4
                have HUC := hide (unit_common HTR.out HE9.out HNP.out (by rw [HC19.out]; exact HPO.out))
                rw [HC19.out] at HUC
                go_loopw [6, 18] (TwoQ k1 (flowAt n cs h9) (unitOf n cs h9 C) g7 rest7 WH2) (fun _ kv _ => k1 - (intOf kv).toNat)
                case atStart => exact ⟨0, Nat.zero_le _, rfl, rfl, HT7, HXX⟩
                case round =>
                  clear HT7
                  obtain ⟨k, hk, rfl, rfl, HT7, HWR⟩ := hrel
                  by_cases hkl : k < k1
                  · have hkk : (k : Int) < (k1 : Int) := by omega
                    have hkn : k < n.pipes.length := by have := HK1.out; omega
                    have hml : k < (divT (flowAt n cs h9) (unitOf n cs h9 C) k1 k).length := by rw [divT_length]; exact hkl
                    have u1 := HT7.out.cell hml
                    rw [divT_get, if_neg (by omega)] at u1
                    have uf := HT7.out.frozen k
                    have uL := HT7.out.lt
                    have sF : Short 50000 (flowAt n cs h9 k) := HTR.out.short (by omega) hkn (HE9.out.piped.from_lt k hkn) (HE9.out.piped.to_lt k hkn)
                    have sU : Short 50000 (unitOf n cs h9 C k) := Dz.short (HUC.out.get hkn) (by omega)
                    have hC0 : C ≠ 0 := by have := HPO.out; grind
                    have hdv := fun w' => ex_div w' sF HSC.out hC0 sU
                    have HNX := hide (divT_set (f := flowAt n cs h9) (u := unitOf n cs h9 C) hkl)
                    have hun : flowAt n cs h9 k / C = unitOf n cs h9 C k := rfl
                    rw [hun] at hdv
                    generalize fracText (flowAt n cs h9 k) = xf at u1 hdv
                    generalize fracText (unitOf n cs h9 C k) = xu at hdv HNX
                    clear sF sU hC0 hun
                    go_wp2_with fail
                    refine (hdv _).mono ?_
                    rintro e WD ⟨rfl, hbB⟩
                    have HT8 := hide (HT7.out.below hbB)
                    have HW8 := hide (ext HWR.out hbB)
                    clear hbB hdv u1 uf uL
                    have u1 := HT8.out.cell hml
                    have uf := HT8.out.frozen k
                    have uL := HT8.out.lt
                    have HT9 := hide (HT8.out.set_ hml xu)
                    rw [HNX.out] at HT9
                    have HW9 := hide (HW8.out.setCell (p := ⟨g7, k, none⟩) (show WH2.heap.size ≤ g7 by have := HG7.out; omega) (str xu))
                    go_wp2_with fail
                    go_round
                    case rel => exact ⟨k + 1, by omega, by go_num, rfl, HT9, HW9⟩
                    case measure => simp [intOf]; omega
                  · obtain rfl : k1 = k := by omega
                    skip --n5
                    rw [divT_end] at HT7
                    have HK := hide (HKW.out.below HWR.out HKW.out.lt)
                    have HA := hide (HAW.out.below HWR.out HAW.out.lt)
                    have HMB6 := hide (HMW.out.below HWR.out HMW.out.lt)
                    have HW := hide (ext HWW.out HWR.out)
                    have HNM := hide (HNW.out.below HWR.out)
                    have HSU : Hid (∀ i, i < n.pipes.length → Short 50000 (unitOf n cs h9 C i)) := hide (fun i hi => Dz.short (HUC.out.get hi) (by omega))
                    have hnd := HT7.out.nodes (n := k1) (c := cap7) (by rw [headTexts_length]) HC7.out.1 HC7.out.2 (by
                      intro x hx
                      unfold headTexts at hx
                      obtain ⟨j, hj, rfl⟩ := List.mem_map.1 hx
                      exact frac_small (HSU.out j (by have := List.mem_range.1 hj; have := HK1.out; omega))) (by rw [headTexts_length]; omega)
                    have r0 := HK.out.cell 0
                    have r1 := HK.out.cell 1
                    have r2 := HK.out.cell 2
                    have r3 := HK.out.cell 3
                    have rL := HK.out.lt
                    have q0 := HA.out.cell 0
                    have q1 := HA.out.cell 1
                    have q2 := HA.out.cell 2
                    have q3 := HA.out.cell 3
                    have q4 := HA.out.cell 4
                    have q5 := HA.out.cell 5
                    have q6 := HA.out.cell 6
                    have q7 := HA.out.cell 7
                    have q8 := HA.out.cell 8
                    have q9 := HA.out.cell 9
                    have q10 := HA.out.cell 10
                    have qL := HA.out.lt
                    have s0 := HMB6.out.cell 0
                    have s1 := HMB6.out.cell 1
                    have s2 := HMB6.out.cell 2
                    have s3 := HMB6.out.cell 3
                    have sL := HMB6.out.lt
                    simp at r0 r1 r2 r3 q0 q1 q2 q3 q4 q5 q6 q7 q8 q9 q10 s0 s1 s2 s3
                    go_wp2_with fail
                    have hbw := one_blw (fs := headTexts k1 (unitOf n cs h9 C)) HM0'.out HWE.out.2.2 HE9.out (by rw [HC19.out]; exact HPO.out) (by rw [HC19.out, HK1.out]) (fun i hi => by rw [HC19.out]; exact HSU.out i hi)
                    rw [HC19.out] at hbw
                    have hh := water_Below _ (.slice (some ⟨g7, 0, none⟩) k1 cap7) (oneNet n cs an bn) an bn (headTexts k1 (unitOf n cs h9 C)) _ HNM.out hnd HSM.out (fun _ => by
                      rw [one_np]
                      obtain ⟨T, t1, t2, t3⟩ := HUC.out.more (show 12843 + 3 ≤ 13000 by omega)
                      exact ⟨T, t1, t2, fun i hi => by rw [HK1.out, head_cond HSU.out hi]; exact t3 i hi⟩)
                    unfold RetBlw at hh
                    rw [hbw.1, hbw.2] at hh
                    refine hh.mono ?_
                    rintro e WB ⟨hbB, ⟨h1, rfl⟩ | ⟨_, rfl⟩⟩
                    · exact absurd rfl h1
                    clear r0 r1 r2 r3 rL q0 q1 q2 q3 q4 q5 q6 q7 q8 q9 q10 qL s0 s1 s2 s3 sL hh hbw hnd HT7 HWR
                    have HK_ := hide (HK.out.below hbB HK.out.lt)
                    have HA_ := hide (HA.out.below hbB HA.out.lt)
                    have HW_ := hide (ext HW.out hbB)
                    clear HK HA HW
                    have HK := HK_
                    have HA := HA_
                    have HW := HW_
                    clear HK_ HA_ HW_
                    clear hbB HMB6 HNM
                    have r0 := HK.out.cell 0
                    have r1 := HK.out.cell 1
                    have r2 := HK.out.cell 2
                    have r3 := HK.out.cell 3
                    have rL := HK.out.lt
                    have q0 := HA.out.cell 0
                    have q1 := HA.out.cell 1
                    have q2 := HA.out.cell 2
                    have q3 := HA.out.cell 3
                    have q4 := HA.out.cell 4
                    have q5 := HA.out.cell 5
                    have q6 := HA.out.cell 6
                    have q7 := HA.out.cell 7
                    have q8 := HA.out.cell 8
                    have q9 := HA.out.cell 9
                    have q10 := HA.out.cell 10
                    have qL := HA.out.lt
                    simp at r0 r1 r2 r3 q0 q1 q2 q3 q4 q5 q6 q7 q8 q9 q10
                    go_wp2_with fail
                    have hh := HWH.out _ HW.out bn an
                    have hwe : wholeErr n cs bn an = 0 := by
                      unfold wholeErr askErr
                      rw [HWE.out.1, HWE.out.2.1]
                      simp only [ne_eq, not_true_eq_false, if_false]
                      exact end_back HWE.out.2.2
                    rw [hwe] at hh
                    refine hh.mono ?_
                    rintro e WL ⟨hbB, ⟨h1, rfl⟩ | ⟨_, hL, hEL, hCL, rfl⟩⟩
                    · exact absurd rfl h1
                    have hback := HE0.out.back
                    rw [Int.toNat_natCast, Int.toNat_natCast] at hEL
                    have hCB : condAt n.pipes.length n.pf n.pt (condOf cs) (bn : Int).toNat hL = C := by
                      rw [Int.toNat_natCast, hEL.same hback.1, hback.2, HC9.out]
                    rw [hCB]
                    clear r0 r1 r2 r3 rL q0 q1 q2 q3 q4 q5 q6 q7 q8 q9 q10 qL hh hwe hback hCB hEL hCL
                    have HW_ := hide (ext HW.out hbB)
                    clear HW
                    have HW := HW_
                    clear HW_
                    clear hbB HK HA
                    have hxx : (fracText C == fracText C) = true := by simp
                    go_wp2_with fail
                    refine (law_lives _).mono ?_
                    rintro e WN ⟨rfl, hbB⟩
                    have HW_ := hide (ext HW.out hbB)
                    clear HW
                    have HW := HW_
                    clear HW_
                    clear hbB
                    go_wp2_with fail
                    go_ret
                    exact ⟨rfl, HW.out⟩
end Go.Proofs.YtdecgcdkaaiglaaGreat
