/- Parts of the proof: memory, numbers, walks of the functions that are called. -/
import Derived.Deep.Cut
import Derived.Test.YtdecgcdkaaiglaaGreatMg31
set_option linter.unusedVariables false
set_option linter.unusedSimpArgs false
namespace Go.Proofs.YtdecgcdkaaiglaaGreat
open Go.RowKit Go.Deep
attribute [local go_sem ↓] Go.wp_at_zero Go.wp_at_succ
theorem zl2 (A B : Option Addr) (ca cb N : Nat) (f g : Nat -> Rat) (w : World) (hA : zD w w.heap.size 1 A N (row N fun k => str (zi (f k)))) (hB : zD w w.heap.size 1 B N (row N fun k => str (zi (g k)))) (hN : N <= 1000) (he : ∀ k, k < N -> f k = g k) :
 Calls Tryz.prog 16 #[.slice A N ca, .slice B N cb] w (vB w (.bool true)) := by
 have e : (row N fun k => str (zi (g k))) = row N fun k => str (zi (f k)) := by
  unfold row
  apply List.map_congr_left
  intro k hk
  rw [he k (List.mem_range.1 hk)]
 rw [e] at hB
 rw [zhn] at hA hB
 have hl : ((List.range N).map fun k => zi (f k)).length = N := by simp
 have h := zgk A B ca cb ((List.range N).map fun k => zi (f k)) ((List.range N).map fun k => zi (f k)) w (by rw [hl]; exact hA) (by rw [hl]; exact hB) (by omega) (by omega)
 rw [hl, decide_eq_true rfl] at h
 exact h
theorem zln (w : World) : Calls Tryz.prog 16 #[.slice none 0 0, .slice none 0 0] w (vB w (.bool true)) := by
 have h := zgk none none 0 0 [] [] w (by simpa using zD.none_) (by simpa using zD.none_) (by simp) (by simp)
 rw [decide_eq_true rfl] at h
 exact h
set_option maxRecDepth 100000 in
set_option maxHeartbeats 16000000 in
theorem zp1 (v va : Value) (n : Net) (x : Ask) (w : World) (hn : X4 w v n) (hx : za6 w va x) : Calls Tryz.prog 4 #[v, va] w (vB w (.bool true)) := by
 have hgr := fun w' (h : Below w.heap.size w w') => zq4 v n w' (hn.below h)
 have hwi := fun w' (h : Below w.heap.size w w') => zsp va x w' (hx.below h)
 cases hg : Vs n with
 | true =>
   rw [hg] at hgr; obtain ⟨A0, c0, A1, c1, A2, c2, A3, c3, rfl, _⟩ := hn; obtain ⟨B0, d0, B1, d1, B2, d2, B3, d3, B4, d4, rfl, _⟩ := hx; clear hg hwi; have HW := ze (ext (zg w (.cells #[.slice A0 n.nodes.length c0, .slice A1 n.pipes.length c1, .slice A2 n.heads.length c2, .slice A3 n.wells.length c3] 26)) (zg _ (.cells #[.slice B0 x.cond.length d0, .slice B1 x.heads.length d1, .slice B2 x.flows.length d2, .int .i64 x.node, .int .i64 x.pipe, .int .i64 x.a, .int .i64 x.b, str x.first, str x.second, .slice B3 x.wells.length d3, .slice B4 x.limits.length d4] 31)))
   go_enter Tryz.func4, Tryz.ntmps4
   go_wp2_with fail; refine (hgr _ HW.out).mono ?_; rintro e WN ⟨rfl, hbB⟩; replace HW := eb_ HW hbB; clear hbB; go_wp2_with fail; refine (XI _).mono ?_; rintro e WN ⟨rfl, hbB⟩; replace HW := eb_ HW hbB; clear hbB; go_wp2_with fail; go_ret; exact ⟨rfl, HW.out⟩
 | false =>
   rw [hg] at hgr; have hni := hn.small hg
   cases hw : ze9 x with
   | true =>
     rw [hw] at hwi; obtain ⟨A0, c0, A1, c1, A2, c2, A3, c3, rfl, _⟩ := hn; obtain ⟨B0, d0, B1, d1, B2, d2, B3, d3, B4, d4, rfl, _⟩ := hx; clear hg hni hw; have HW := ze (ext (zg w (.cells #[.slice A0 n.nodes.length c0, .slice A1 n.pipes.length c1, .slice A2 n.heads.length c2, .slice A3 n.wells.length c3] 26)) (zg _ (.cells #[.slice B0 x.cond.length d0, .slice B1 x.heads.length d1, .slice B2 x.flows.length d2, .int .i64 x.node, .int .i64 x.pipe, .int .i64 x.a, .int .i64 x.b, str x.first, str x.second, .slice B3 x.wells.length d3, .slice B4 x.limits.length d4] 31)))
     have HA : Hid (Blk ((w.alloc (.cells #[.slice A0 n.nodes.length c0, .slice A1 n.pipes.length c1, .slice A2 n.heads.length c2, .slice A3 n.wells.length c3] 26)).alloc (.cells #[.slice B0 x.cond.length d0, .slice B1 x.heads.length d1, .slice B2 x.flows.length d2, .int .i64 x.node, .int .i64 x.pipe, .int .i64 x.a, .int .i64 x.b, str x.first, str x.second, .slice B3 x.wells.length d3, .slice B4 x.limits.length d4] 31)) (w.heap.size + 1) 31 #[.slice B0 x.cond.length d0, .slice B1 x.heads.length d1, .slice B2 x.flows.length d2, .int .i64 x.node, .int .i64 x.pipe, .int .i64 x.a, .int .i64 x.b, str x.first, str x.second, .slice B3 x.wells.length d3, .slice B4 x.limits.length d4]) := ze (by
      have h := Blk.new (w.alloc (.cells #[.slice A0 n.nodes.length c0, .slice A1 n.pipes.length c1, .slice A2 n.heads.length c2, .slice A3 n.wells.length c3] 26)) 31 #[.slice B0 x.cond.length d0, .slice B1 x.heads.length d1, .slice B2 x.flows.length d2, .int .i64 x.node, .int .i64 x.pipe, .int .i64 x.a, .int .i64 x.b, str x.first, str x.second, .slice B3 x.wells.length d3, .slice B4 x.limits.length d4]; simp only [World.size_alloc] at h
      exact h)
     go_enter Tryz.func4, Tryz.ntmps4
     go_wp2_with fail; refine (hgr _ HW.out).mono ?_; rintro e WN ⟨rfl, hbB⟩
     try clear q0 q1 q2 q3 q4 q5 q6 q7 q8 q9 q10 qL
     replace HA := kb_ HA hbB; replace HW := eb_ HW hbB; clear hbB; obtain ⟨q0, q1, q2, q3, q4, q5, q6, q7, q8, q9, q10, qL⟩ := xH HA.out; go_wp2_with fail; refine (hwi _ HW.out).mono ?_; rintro e WN ⟨rfl, hbB⟩
     try clear q0 q1 q2 q3 q4 q5 q6 q7 q8 q9 q10 qL
     replace HA := kb_ HA hbB; replace HW := eb_ HW hbB; clear hbB; obtain ⟨q0, q1, q2, q3, q4, q5, q6, q7, q8, q9, q10, qL⟩ := xH HA.out; go_wp2_with fail; refine (XI _).mono ?_; rintro e WN ⟨rfl, hbB⟩
     try clear q0 q1 q2 q3 q4 q5 q6 q7 q8 q9 q10 qL
     replace HA := kb_ HA hbB; replace HW := eb_ HW hbB; clear hbB; obtain ⟨q0, q1, q2, q3, q4, q5, q6, q7, q8, q9, q10, qL⟩ := xH HA.out; go_wp2_with fail; go_ret; exact ⟨rfl, HW.out⟩
   | false =>
     rw [hw] at hwi; have hsz := zps hg; obtain ⟨hl0, hl1, hl2, _⟩ := zrj hw; have hfz := fun w' (hb : Below w.heap.size w w') => hni.below hb
     obtain ⟨B0, d0, B1, d1, B2, d2, B3, d3, B4, d4, rfl, t0, t1, t2, _⟩ := hx; have hc0 := t0.small hl0; have hc1 := t1.small hl1; clear t0 t1 t2 hl0 hl1 hl2 hn; obtain ⟨m0, e0⟩ : ∃ m, m = x.cond.length := ⟨_, rfl⟩; obtain ⟨m1, e1⟩ : ∃ m, m = x.heads.length := ⟨_, rfl⟩; rw [<- e0] at hc0 hwi |-; rw [<- e1] at hc1 hwi |-; have HM0 := ze e0; have HM1 := ze e1; clear e0 e1; generalize x.flows.length = m2 at hwi |-; generalize x.node = z3 at hwi |-; generalize x.pipe = z4 at hwi |-; generalize x.a = z5 at hwi |-; generalize x.b = z6 at hwi |-; generalize x.first = s7 at hwi |-; generalize x.second = s8 at hwi |-; generalize x.wells.length = m9 at hwi |-; generalize x.limits.length = m10 at hwi |-; generalize hcs : x.cond = cs at hc0 HM0; generalize hgs : x.heads = gs at hc1 HM1; clear hcs hgs hw hg; have hh := fun w' (hb : Below w.heap.size w w') => YS v (.slice B0 m0 d0) n cs w' (hfz w' hb) (hc0.below hb) hsz
     have hf := fun w' (hb : Below w.heap.size w w') => zk3 v (.slice B0 m0 d0) n cs w' (hfz w' hb) (hc0.below hb) hsz
     have hb1 := fun w' (hb : Below w.heap.size w w') vg gs (hg : yJ w' vg gs) => Vb v (.slice B0 m0 d0) vg n cs gs w' (hfz w' hb) (hc0.below hb) hg hsz
     have rh := fun w' (hb : Below w.heap.size w w') => zqu v (.slice B0 m0 d0) n cs w' (hfz w' hb) (hc0.below hb) hsz
     have rf := fun w' (hb : Below w.heap.size w w') => zpw v (.slice B0 m0 d0) n cs w' (hfz w' hb) (hc0.below hb) hsz
     have wb := fun w' (hb : Below w.heap.size w w') => Vb v (.slice B0 m0 d0) (.slice B1 m1 d1) n cs gs w' (hfz w' hb) (hc0.below hb) (hc1.below hb) hsz
     have rb := fun w' (hb : Below w.heap.size w w') => zig v (.slice B0 m0 d0) (.slice B1 m1 d1) n cs gs w' (hfz w' hb) (hc0.below hb) (hc1.below hb) hsz
     have HRH := ze rh; have HRL := ze rf; have HWB := ze wb; have HRB := ze rb; clear rh rf wb rb; have hc1b := fun w' (hb : Below w.heap.size w w') => hc1.below hb
     have HSZ := ze hsz; have HC0 := ze hc0; have HC1 := ze hc1; obtain ⟨A0, k0, c0, A1, k1, c1, A2, k2, c2, A3, k3, c3, rfl, hn0, hn1, hn2, hn3⟩ := hni; have hk0 : k0 = n.nodes.length := by obtain ⟨A', c', e, _⟩ := hn0; injection e
     have hk1 : k1 = n.pipes.length := by obtain ⟨A', c', e, _⟩ := hn1; injection e
     have hk2 : k2 = n.heads.length := by obtain ⟨A', c', e, _⟩ := hn2; injection e
     have hk3 : k3 = n.wells.length := by obtain ⟨A', c', e, _⟩ := hn3; injection e
     have hk2b : k2 <= 1000 := by obtain ⟨A', c', e, _, _, h6, _⟩ := hn2; omega
     have hk3b : k3 <= 1000 := by obtain ⟨A', c', e, _, _, h6, _⟩ := hn3; omega
     have HK0 := ze hk0; have HK1 := ze hk1; have HK2 := ze hk2; have HK3 := ze hk3; have HN1 := ze hn1; have HN2 := ze hn2; have HN3 := ze hn3; clear hn0 hn1 hn2 hn3 hc0 hc1 hsz hfz hk0 hk1 hk2 hk3; have HW := ze (ext (zg w (.cells #[.slice A0 k0 c0, .slice A1 k1 c1, .slice A2 k2 c2, .slice A3 k3 c3] 26)) (zg _ (.cells #[.slice B0 m0 d0, .slice B1 m1 d1, .slice B2 m2 d2, .int .i64 z3, .int .i64 z4, .int .i64 z5, .int .i64 z6, str s7, str s8, .slice B3 m9 d3, .slice B4 m10 d4] 31))); have HK : Hid (Blk ((w.alloc (.cells #[.slice A0 k0 c0, .slice A1 k1 c1, .slice A2 k2 c2, .slice A3 k3 c3] 26)).alloc (.cells #[.slice B0 m0 d0, .slice B1 m1 d1, .slice B2 m2 d2, .int .i64 z3, .int .i64 z4, .int .i64 z5, .int .i64 z6, str s7, str s8, .slice B3 m9 d3, .slice B4 m10 d4] 31)) w.heap.size 26 #[.slice A0 k0 c0, .slice A1 k1 c1, .slice A2 k2 c2, .slice A3 k3 c3]) := ze ((Blk.new w 26 #[.slice A0 k0 c0, .slice A1 k1 c1, .slice A2 k2 c2, .slice A3 k3 c3]).alloc _)
     have HA : Hid (Blk ((w.alloc (.cells #[.slice A0 k0 c0, .slice A1 k1 c1, .slice A2 k2 c2, .slice A3 k3 c3] 26)).alloc (.cells #[.slice B0 m0 d0, .slice B1 m1 d1, .slice B2 m2 d2, .int .i64 z3, .int .i64 z4, .int .i64 z5, .int .i64 z6, str s7, str s8, .slice B3 m9 d3, .slice B4 m10 d4] 31)) (w.heap.size + 1) 31 #[.slice B0 m0 d0, .slice B1 m1 d1, .slice B2 m2 d2, .int .i64 z3, .int .i64 z4, .int .i64 z5, .int .i64 z6, str s7, str s8, .slice B3 m9 d3, .slice B4 m10 d4]) := ze (by
      have h := Blk.new (w.alloc (.cells #[.slice A0 k0 c0, .slice A1 k1 c1, .slice A2 k2 c2, .slice A3 k3 c3] 26)) 31 #[.slice B0 m0 d0, .slice B1 m1 d1, .slice B2 m2 d2, .int .i64 z3, .int .i64 z4, .int .i64 z5, .int .i64 z6, str s7, str s8, .slice B3 m9 d3, .slice B4 m10 d4]; simp only [World.size_alloc] at h
      exact h)
     have HH := ze hh; have HFL := ze hf; have HB1 := ze hb1; have HC1B := ze hc1b; clear hh hf hb1 hc1b
     go_enter Tryz.func4, Tryz.ntmps4
     go_wp2_with fail; refine (hgr _ HW.out).mono ?_; rintro e WN ⟨rfl, hbB⟩
     try clear r0 r1 r2 r3 rL q0 q1 q2 q3 q4 q5 q6 q7 q8 q9 q10 qL
     replace HK := kb_ HK hbB; replace HA := kb_ HA hbB; replace HW := eb_ HW hbB; clear hbB; obtain ⟨r0, r1, r2, r3, rL⟩ := yG HK.out; obtain ⟨q0, q1, q2, q3, q4, q5, q6, q7, q8, q9, q10, qL⟩ := xH HA.out; clear hgr; go_wp2_with fail; refine (hwi _ HW.out).mono ?_; rintro e WN ⟨rfl, hbB⟩
     try clear r0 r1 r2 r3 rL q0 q1 q2 q3 q4 q5 q6 q7 q8 q9 q10 qL
     replace HK := kb_ HK hbB; replace HA := kb_ HA hbB; replace HW := eb_ HW hbB; clear hbB; obtain ⟨r0, r1, r2, r3, rL⟩ := yG HK.out; obtain ⟨q0, q1, q2, q3, q4, q5, q6, q7, q8, q9, q10, qL⟩ := xH HA.out; clear hwi; go_wp2_with fail; obtain ⟨y, HY⟩ : ∃ y, Hid (yL n cs = y) := ⟨_, ze rfl⟩; have hI2 : (y == y) = true := by simp
     have hI3 : (y != y) = false := by simp
     by_cases h0 : y = 0
     . subst h0
       have hz : n.err = 0 /\ yV n cs = 0 := by
        have h0 := HY.out; unfold yL at h0
        by_cases h3 : n.err = 0
        . rw [if_neg (by rw [h3]; decide)] at h0; exact ⟨h3, h0⟩
        . rw [if_pos h3] at h0; exact absurd h0 h3
       have HG := ze (XX hz.1 hz.2 (HSZ.out hz.1).1 (HSZ.out hz.1).2); have HSM := ze (VH hz.1); clear hz; have hh := HH.out _ HW.out; unfold XS at hh; rw [HY.out] at hh; refine hh.mono ?_; rintro e W1 ⟨hbB, ⟨h0, _⟩ | ⟨_, A9, cap9, h9, rfl, hcap, hIs, _, hrd⟩⟩
       . exact absurd rfl h0
       subst hcap; clear r0 r1 r2 r3 rL q0 q1 q2 q3 q4 q5 q6 q7 q8 q9 q10 qL hh; replace HK := kb_ HK hbB; replace HA := kb_ HA hbB; replace HW := eb_ HW hbB; clear hbB; have HRD := ze hrd; have HIS := ze hIs; clear hrd hIs; obtain ⟨r0, r1, r2, r3, rL⟩ := yG HK.out; obtain ⟨q0, q1, q2, q3, q4, q5, q6, q7, q8, q9, q10, qL⟩ := xH HA.out; go_wp2_with fail; have hh := HRH.out _ HW.out; unfold VT at hh; rw [HY.out] at hh; refine hh.mono ?_; rintro e W2 ⟨hbB, ⟨h0, _⟩ | ⟨_, A8, cap8, h8, rfl, hIs8, hrd8⟩⟩
       . exact absurd rfl h0
       have hss := zl2 A9 A8 n.nodes.length cap8 n.nodes.length h9 h8 W2 ((HRD.out.below hbB).more hbB.size) hrd8 (by have := HSM.out.1; omega) (vT.same HG.out HIS.out hIs8); clear r0 r1 r2 r3 rL q0 q1 q2 q3 q4 q5 q6 q7 q8 q9 q10 qL hh hIs8 hrd8 HRD; replace HK := kb_ HK hbB; replace HA := kb_ HA hbB; replace HW := eb_ HW hbB; clear hbB; obtain ⟨r0, r1, r2, r3, rL⟩ := yG HK.out; obtain ⟨q0, q1, q2, q3, q4, q5, q6, q7, q8, q9, q10, qL⟩ := xH HA.out; go_wp2_with fail; refine hss.mono ?_; rintro e W3 ⟨rfl, hbB⟩; clear r0 r1 r2 r3 rL q0 q1 q2 q3 q4 q5 q6 q7 q8 q9 q10 qL hss; replace HK := kb_ HK hbB; replace HA := kb_ HA hbB; replace HW := eb_ HW hbB; clear hbB; obtain ⟨r0, r1, r2, r3, rL⟩ := yG HK.out; obtain ⟨q0, q1, q2, q3, q4, q5, q6, q7, q8, q9, q10, qL⟩ := xH HA.out; go_wp2_with fail; have hh := HFL.out _ HW.out; unfold YQ at hh; rw [HY.out] at hh; refine hh.mono ?_; rintro e W4 ⟨hbB, ⟨h0, _⟩ | ⟨_, A7, cap7, h7, rfl, _, hIs7, hrd7⟩⟩
       . exact absurd rfl h0
       clear r0 r1 r2 r3 rL q0 q1 q2 q3 q4 q5 q6 q7 q8 q9 q10 qL hh; replace HK := kb_ HK hbB; replace HA := kb_ HA hbB; replace HW := eb_ HW hbB; clear hbB; have HRD := ze hrd7; have HIS7 := ze hIs7; clear hrd7 hIs7; obtain ⟨r0, r1, r2, r3, rL⟩ := yG HK.out; obtain ⟨q0, q1, q2, q3, q4, q5, q6, q7, q8, q9, q10, qL⟩ := xH HA.out; go_wp2_with fail; have hh := HRL.out _ HW.out; unfold YQ at hh; rw [HY.out] at hh; refine hh.mono ?_; rintro e W5 ⟨hbB, ⟨h0, _⟩ | ⟨_, A6, cap6, h6, rfl, _, hIs6, hrd6⟩⟩
       . exact absurd rfl h0
       have hss := zl2 A7 A6 cap7 cap6 n.pipes.length (Yb n cs h7) (Yb n cs h6) W5 ((HRD.out.below hbB).more hbB.size) hrd6 (by have := HSM.out.2; omega) (fun k hk => by
        have hsame := vT.same HG.out HIS7.out hIs6; unfold Yb
        rw [hsame _ (HG.out.piped.from_lt k hk), hsame _ (HG.out.piped.to_lt k hk)])
       clear r0 r1 r2 r3 rL q0 q1 q2 q3 q4 q5 q6 q7 q8 q9 q10 qL hh hIs6 hrd6 HRD HIS7; replace HK := kb_ HK hbB; replace HA := kb_ HA hbB; replace HW := eb_ HW hbB; clear hbB; obtain ⟨r0, r1, r2, r3, rL⟩ := yG HK.out; obtain ⟨q0, q1, q2, q3, q4, q5, q6, q7, q8, q9, q10, qL⟩ := xH HA.out; go_wp2_with fail; refine hss.mono ?_; rintro e W6 ⟨rfl, hbB⟩; clear r0 r1 r2 r3 rL q0 q1 q2 q3 q4 q5 q6 q7 q8 q9 q10 qL hss; replace HK := kb_ HK hbB; replace HA := kb_ HA hbB; replace HW := eb_ HW hbB; clear hbB; obtain ⟨r0, r1, r2, r3, rL⟩ := yG HK.out; obtain ⟨q0, q1, q2, q3, q4, q5, q6, q7, q8, q9, q10, qL⟩ := xH HA.out; go_wp2_with fail; obtain ⟨z, HZ⟩ : ∃ z, Hid (VC n cs gs = z) := ⟨_, ze rfl⟩; have hJ2 : (z == z) = true := by simp
       have hh := HWB.out _ HW.out; unfold zaa at hh; rw [HZ.out] at hh; refine hh.mono ?_; rintro e W7 ⟨hbB, ⟨hz1, rfl⟩ | ⟨hz1, h5, hIs5, rfl⟩⟩
       . clear r0 r1 r2 r3 rL q0 q1 q2 q3 q4 q5 q6 q7 q8 q9 q10 qL hh
         replace HK := kb_ HK hbB; replace HA := kb_ HA hbB; replace HW := eb_ HW hbB; clear hbB; obtain ⟨r0, r1, r2, r3, rL⟩ := yG HK.out; obtain ⟨q0, q1, q2, q3, q4, q5, q6, q7, q8, q9, q10, qL⟩ := xH HA.out; go_wp2_with fail; have hh := HRB.out _ HW.out; unfold zaa at hh; rw [HZ.out] at hh; refine hh.mono ?_; rintro e W8 ⟨hbB, ⟨_, rfl⟩ | ⟨h0, _⟩⟩
         . clear r0 r1 r2 r3 rL q0 q1 q2 q3 q4 q5 q6 q7 q8 q9 q10 qL hh
           replace HK := kb_ HK hbB; replace HA := kb_ HA hbB; replace HW := eb_ HW hbB; clear hbB; go_wp2_with fail; refine (XI _).mono ?_; rintro e WN ⟨rfl, hbB⟩
           try clear r0 r1 r2 r3 rL q0 q1 q2 q3 q4 q5 q6 q7 q8 q9 q10 qL
           replace HK := kb_ HK hbB; replace HA := kb_ HA hbB; replace HW := eb_ HW hbB; clear hbB; obtain ⟨r0, r1, r2, r3, rL⟩ := yG HK.out; obtain ⟨q0, q1, q2, q3, q4, q5, q6, q7, q8, q9, q10, qL⟩ := xH HA.out; go_wp2_with fail; go_ret; exact ⟨rfl, HW.out⟩
         . exact absurd h0 hz1
       . subst hz1
         clear r0 r1 r2 r3 rL q0 q1 q2 q3 q4 q5 q6 q7 q8 q9 q10 qL hh; replace HK := kb_ HK hbB; replace HA := kb_ HA hbB; replace HW := eb_ HW hbB; clear hbB; have HI5 := ze hIs5; clear hIs5; obtain ⟨r0, r1, r2, r3, rL⟩ := yG HK.out; obtain ⟨q0, q1, q2, q3, q4, q5, q6, q7, q8, q9, q10, qL⟩ := xH HA.out; go_wp2_with fail; have hh := HRB.out _ HW.out; unfold zaa at hh; rw [HZ.out] at hh; refine hh.mono ?_; rintro e W8 ⟨hbB, ⟨h0, _⟩ | ⟨_, h4, hIs4, rfl⟩⟩
         . exact absurd rfl h0
         have hsame := vT.same HG.out hIs4 HI5.out
         have he : (List.range n.nodes.length).map (fun k => zi (h4 k)) = (List.range n.nodes.length).map (fun k => zi (h5 k)) := by
          apply List.map_congr_left
          intro k hk; rw [hsame k (List.mem_range.1 hk)]
         rw [he]; generalize decide ((List.range n.nodes.length).map (fun k => zi (h5 k)) = gs) = db; have hdb : (db == db) = true := by simp
         clear r0 r1 r2 r3 rL q0 q1 q2 q3 q4 q5 q6 q7 q8 q9 q10 qL hh he hsame hIs4; replace HK := kb_ HK hbB; replace HA := kb_ HA hbB; replace HW := eb_ HW hbB; clear hbB; go_wp2_with fail; refine (XI _).mono ?_; rintro e WN ⟨rfl, hbB⟩
         try clear r0 r1 r2 r3 rL q0 q1 q2 q3 q4 q5 q6 q7 q8 q9 q10 qL
         replace HK := kb_ HK hbB; replace HA := kb_ HA hbB; replace HW := eb_ HW hbB; clear hbB; obtain ⟨r0, r1, r2, r3, rL⟩ := yG HK.out; obtain ⟨q0, q1, q2, q3, q4, q5, q6, q7, q8, q9, q10, qL⟩ := xH HA.out; go_wp2_with fail; go_ret; exact ⟨rfl, HW.out⟩
     . have H0 := ze h0
       have hb0 : Hid (VC n cs gs = y) := by
        show _ = _
        unfold VC; rw [HY.out, if_pos H0.out]
       clear h0; have hh := HH.out _ HW.out; unfold XS at hh; rw [HY.out] at hh; refine hh.mono ?_; rintro e W1 ⟨hbB, ⟨_, rfl⟩ | ⟨h0, _⟩⟩; rotate_left
       . exact absurd h0 H0.out
       clear r0 r1 r2 r3 rL q0 q1 q2 q3 q4 q5 q6 q7 q8 q9 q10 qL hh; replace HK := kb_ HK hbB; replace HA := kb_ HA hbB; replace HW := eb_ HW hbB; clear hbB; obtain ⟨r0, r1, r2, r3, rL⟩ := yG HK.out; obtain ⟨q0, q1, q2, q3, q4, q5, q6, q7, q8, q9, q10, qL⟩ := xH HA.out; go_wp2_with fail; have hh := HRH.out _ HW.out; unfold VT at hh; rw [HY.out] at hh; refine hh.mono ?_; rintro e W2 ⟨hbB, ⟨_, rfl⟩ | ⟨h0, _⟩⟩; rotate_left
       . exact absurd h0 H0.out
       clear r0 r1 r2 r3 rL q0 q1 q2 q3 q4 q5 q6 q7 q8 q9 q10 qL hh; replace HK := kb_ HK hbB; replace HA := kb_ HA hbB; replace HW := eb_ HW hbB; clear hbB; obtain ⟨r0, r1, r2, r3, rL⟩ := yG HK.out; obtain ⟨q0, q1, q2, q3, q4, q5, q6, q7, q8, q9, q10, qL⟩ := xH HA.out; go_wp2_with fail; refine (zln _).mono ?_; rintro e WN ⟨rfl, hbB⟩
       try clear r0 r1 r2 r3 rL q0 q1 q2 q3 q4 q5 q6 q7 q8 q9 q10 qL
       replace HK := kb_ HK hbB; replace HA := kb_ HA hbB; replace HW := eb_ HW hbB; clear hbB; obtain ⟨r0, r1, r2, r3, rL⟩ := yG HK.out; obtain ⟨q0, q1, q2, q3, q4, q5, q6, q7, q8, q9, q10, qL⟩ := xH HA.out; go_wp2_with fail; have hh := HFL.out _ HW.out; unfold YQ at hh; rw [HY.out] at hh; refine hh.mono ?_; rintro e W4 ⟨hbB, ⟨_, rfl⟩ | ⟨h0, _⟩⟩; rotate_left
       . exact absurd h0 H0.out
       clear r0 r1 r2 r3 rL q0 q1 q2 q3 q4 q5 q6 q7 q8 q9 q10 qL hh; replace HK := kb_ HK hbB; replace HA := kb_ HA hbB; replace HW := eb_ HW hbB; clear hbB; obtain ⟨r0, r1, r2, r3, rL⟩ := yG HK.out; obtain ⟨q0, q1, q2, q3, q4, q5, q6, q7, q8, q9, q10, qL⟩ := xH HA.out; go_wp2_with fail; have hh := HRL.out _ HW.out; unfold YQ at hh; rw [HY.out] at hh; refine hh.mono ?_; rintro e W5 ⟨hbB, ⟨_, rfl⟩ | ⟨h0, _⟩⟩; rotate_left
       . exact absurd h0 H0.out
       clear r0 r1 r2 r3 rL q0 q1 q2 q3 q4 q5 q6 q7 q8 q9 q10 qL hh; replace HK := kb_ HK hbB; replace HA := kb_ HA hbB; replace HW := eb_ HW hbB; clear hbB; obtain ⟨r0, r1, r2, r3, rL⟩ := yG HK.out; obtain ⟨q0, q1, q2, q3, q4, q5, q6, q7, q8, q9, q10, qL⟩ := xH HA.out; go_wp2_with fail; refine (zln _).mono ?_; rintro e WN ⟨rfl, hbB⟩
       try clear r0 r1 r2 r3 rL q0 q1 q2 q3 q4 q5 q6 q7 q8 q9 q10 qL
       replace HK := kb_ HK hbB; replace HA := kb_ HA hbB; replace HW := eb_ HW hbB; clear hbB; obtain ⟨r0, r1, r2, r3, rL⟩ := yG HK.out; obtain ⟨q0, q1, q2, q3, q4, q5, q6, q7, q8, q9, q10, qL⟩ := xH HA.out; go_wp2_with fail; have hh := HWB.out _ HW.out; unfold zaa at hh; rw [hb0.out] at hh; refine hh.mono ?_; rintro e W7 ⟨hbB, ⟨_, rfl⟩ | ⟨h0, _⟩⟩; rotate_left
       . exact absurd h0 H0.out
       clear r0 r1 r2 r3 rL q0 q1 q2 q3 q4 q5 q6 q7 q8 q9 q10 qL hh; replace HK := kb_ HK hbB; replace HA := kb_ HA hbB; replace HW := eb_ HW hbB; clear hbB; obtain ⟨r0, r1, r2, r3, rL⟩ := yG HK.out; obtain ⟨q0, q1, q2, q3, q4, q5, q6, q7, q8, q9, q10, qL⟩ := xH HA.out; go_wp2_with fail; have hh := HRB.out _ HW.out; unfold zaa at hh; rw [hb0.out] at hh; refine hh.mono ?_; rintro e W8 ⟨hbB, ⟨_, rfl⟩ | ⟨h0, _⟩⟩; rotate_left
       . exact absurd h0 H0.out
       clear r0 r1 r2 r3 rL q0 q1 q2 q3 q4 q5 q6 q7 q8 q9 q10 qL hh; replace HK := kb_ HK hbB; replace HA := kb_ HA hbB; replace HW := eb_ HW hbB; clear hbB; go_wp2_with fail; refine (XI _).mono ?_; rintro e WN ⟨rfl, hbB⟩
       try clear r0 r1 r2 r3 rL q0 q1 q2 q3 q4 q5 q6 q7 q8 q9 q10 qL
       replace HK := kb_ HK hbB; replace HA := kb_ HA hbB; replace HW := eb_ HW hbB; clear hbB; obtain ⟨r0, r1, r2, r3, rL⟩ := yG HK.out; obtain ⟨q0, q1, q2, q3, q4, q5, q6, q7, q8, q9, q10, qL⟩ := xH HA.out; go_wp2_with fail; go_ret; exact ⟨rfl, HW.out⟩
end Go.Proofs.YtdecgcdkaaiglaaGreat
