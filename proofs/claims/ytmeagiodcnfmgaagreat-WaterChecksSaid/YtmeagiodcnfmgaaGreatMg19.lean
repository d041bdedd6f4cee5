/- The walks of the reference's net (3): pipe. -/
import Derived.Below
import Derived.BigQuiet
import Derived.BigRegion
import Derived.Deep.AppendLies
import Derived.Deep.CutBlock
import Derived.Deep.DeepCutAuto
import Derived.Deep.DeepMust
import Derived.Deep.DrawnRows
import Derived.Deep.Draws
import Derived.Deep.OwnRows
import Derived.Deep.QuietTactic
import Derived.Deep.RegionHeld3
import Derived.Deep.RegionLawGrows
import Derived.Deep.RegionWith
import Derived.IntWalk
import Derived.Laws.BitsAllLaws
import Derived.Laws.MathBits
import Derived.Laws.OwnMore
import Derived.Laws.Rows
import Derived.Lib.BitFns
import Derived.Lib.Bytealg
import Derived.Lib.Index
import Derived.Lib.Slices
import Derived.Lib.Small
import Derived.Lib.Strings
import Derived.Lib.Walk
import Derived.LoopN
import Derived.Maps.AppendAt
import Derived.OwnWalk
import Derived.RegionTactic
import Derived.StillTailTactics
import Derived.WalkKit
import Derived.WalkLawsBesides
import Derived.WalkSpells
import Init.Data.List.Lemmas
import Derived.Test.YtmeagiodcnfmgaaGreatMg18
import Derived.Test.YtmeagiodcnfmgaaGreatMg12
set_option linter.unusedVariables false
set_option linter.unusedSimpArgs false
namespace Go.Proofs.YtmeagiodcnfmgaaGreat
open Go.RowKit Go.Deep
attribute [local go_sem ↓] Go.wp_at_zero Go.wp_at_succ
theorem PipesIs.at_ {w : World} {A : Option Addr} {n c : Nat} {l : List Pipe} (h : PipesIs w (.slice A n c) l) {k : Nat} (hk : k < l.length) :
    ∃ ad, A = some ad ∧ ad.block < w.heap.size ∧ w.cell? (ad.add (k * 5)) = some (str l[k].name) ∧ w.cell? ⟨(ad.add (k * 5)).block, (ad.add (k * 5)).off + 1, none⟩ = some (.int .i64 l[k].from_) ∧
      w.cell? ⟨(ad.add (k * 5)).block, (ad.add (k * 5)).off + 2, none⟩ = some (.int .i64 l[k].to_) ∧ w.cell? ⟨(ad.add (k * 5)).block, (ad.add (k * 5)).off + 3, none⟩ = some (str l[k].low) ∧
      w.cell? ⟨(ad.add (k * 5)).block, (ad.add (k * 5)).off + 4, none⟩ = some (str l[k].high) := by
  obtain ⟨A', c', e, h2, h3, _, h4, h5⟩ := h
  injection e with e1 e2 e3
  subst e1 e2 e3
  obtain ⟨ad, rfl, hb, hc⟩ := h4.2 (by omega)
  obtain ⟨g1, g2, g3, g4, g5⟩ := pipesCells_get hk
  rw [Nat.mul_comm] at g1 g2 g3 g4 g5
  exact ⟨ad, rfl, hb, hc _ _ g1, by rw [addr_field ad (k * 5) 0]; exact hc _ _ g2, by rw [addr_field ad (k * 5) 1]; exact hc _ _ g3, by rw [addr_field ad (k * 5) 2]; exact hc _ _ g4, by rw [addr_field ad (k * 5) 3]; exact hc _ _ g5⟩
theorem mem_take_name {l : List Pipe} {z : List UInt8} {k : Nat} (hk : k ≤ l.length) : z ∈ (l.take k).map (·.name) ↔ ∃ j, ∃ h : j < l.length, j < k ∧ l[j].name = z := by
  rw [List.mem_map]
  constructor
  · rintro ⟨x, hx, rfl⟩
    obtain ⟨j, hj, rfl⟩ := List.mem_iff_getElem.1 hx
    rw [List.length_take] at hj
    exact ⟨j, by omega, by omega, by rw [List.getElem_take]⟩
  · rintro ⟨j, h, hj, rfl⟩
    refine ⟨l[j], ?_, rfl⟩
    rw [List.mem_iff_getElem]
    exact ⟨j, by rw [List.length_take]; omega, by rw [List.getElem_take]⟩
theorem pipeErr_get (n : Net) {k : Nat} (hk : k < n.pipes.length) : n.pipeErr k =
    if isName n.pipes[k].name = false then 5
    else if n.pipes[k].name ∈ (n.pipes.take k).map (·.name) then 6
    else if (decide (0 ≤ n.pipes[k].from_) && decide (n.pipes[k].from_ < (n.nodes.length : Int))) = false ∨ (decide (0 ≤ n.pipes[k].to_) && decide (n.pipes[k].to_ < (n.nodes.length : Int))) = false then 7
    else if n.pipes[k].from_ = n.pipes[k].to_ then 1
    else if numErr n.pipes[k].low ≠ 0 then numErr n.pipes[k].low
    else if numErr n.pipes[k].high ≠ 0 then numErr n.pipes[k].high
    else if numOf n.pipes[k].low ≤ 0 ∨ numOf n.pipes[k].high < numOf n.pipes[k].low then 1 else 0 := by
  unfold Net.pipeErr
  have e : n.pipes.getD k default = n.pipes[k] := by simp [List.getD, List.getElem?_eq_getElem hk]
  simp only [e]
  have h : (n.pipes[k].from_ < 0 ∨ (n.nodes.length : Int) ≤ n.pipes[k].from_ ∨ n.pipes[k].to_ < 0 ∨ (n.nodes.length : Int) ≤ n.pipes[k].to_) ↔
      ((decide (0 ≤ n.pipes[k].from_) && decide (n.pipes[k].from_ < (n.nodes.length : Int))) = false ∨ (decide (0 ≤ n.pipes[k].to_) && decide (n.pipes[k].to_ < (n.nodes.length : Int))) = false) := by
    rw [Bool.and_eq_false_iff, Bool.and_eq_false_iff, decide_eq_false_iff_not, decide_eq_false_iff_not, decide_eq_false_iff_not, decide_eq_false_iff_not]; omega
  simp only [h]
theorem sign_le {q : Rat} : q.num.sign ≤ 0 ↔ q ≤ 0 := by
  have h1 : 0 ≤ (-q).num ↔ 0 ≤ -q := Rat.num_nonneg
  rw [Rat.neg_num] at h1
  have h2 : 0 ≤ -q ↔ q ≤ 0 := by constructor <;> intro h <;> grind
  rw [← h2, ← h1]
  constructor
  · intro h
    apply Classical.byContradiction
    intro h1
    have := Int.sign_eq_one_of_pos (a := q.num) (by omega)
    omega
  · intro h
    rcases Int.lt_or_eq_of_le (show q.num ≤ 0 by omega) with h3 | h3
    · rw [Int.sign_eq_neg_one_of_neg h3]; omega
    · rw [h3]; decide
theorem sgn3 (q : Rat) : (q ≤ 0 ∧ q.num.sign = -1) ∨ (q ≤ 0 ∧ q.num.sign = 0) ∨ (¬ q ≤ 0 ∧ q.num.sign = 1) := by
  rcases Int.lt_trichotomy q.num 0 with h | h | h
  · have := Int.sign_eq_neg_one_of_neg h
    exact .inl ⟨sign_le.1 (by omega), this⟩
  · have h2 : q.num.sign = 0 := by rw [h]; rfl
    exact .inr (.inl ⟨sign_le.1 (by omega), h2⟩)
  · have := Int.sign_eq_one_of_pos h
    exact .inr (.inr ⟨fun h3 => by have := sign_le.2 h3; omega, this⟩)
theorem sub_sign {x y : Rat} : 0 < (x - y).num.sign ↔ y < x := by
  have h := sign_le (q := x - y)
  have h2 : x - y ≤ 0 ↔ x ≤ y := by constructor <;> intro h <;> grind
  constructor
  · intro h1
    apply Classical.byContradiction
    intro h3
    have := h.2 (h2.2 (Rat.not_lt.1 h3))
    omega
  · intro h1
    apply Classical.byContradiction
    intro h3
    have := h2.1 (h.1 (by omega))
    exact absurd h1 (Rat.not_lt.2 this)
def PipR (l : List Pipe) (z : List UInt8) (i : Nat) (w : World) (csN csP : Array Value) (vp iv : Value) (wr : World) : Prop :=
  ∃ j : Nat, j ≤ i ∧ iv = .int .i64 j ∧ Hid (∀ m (h : m < l.length), m < j → l[m].name ≠ z) ∧ Hid (Blk wr w.heap.size 26 csN) ∧ Hid (Blk wr (w.heap.size + 1) 33 csP) ∧
    Hid (Below w.heap.size w wr) ∧ Hid (PipesIs wr vp l)
set_option maxRecDepth 100000 in
set_option maxHeartbeats 8000000 in
theorem ref_pipe (vn : Value) (n : Net) (i : Nat) (w : World) (hn : NetIs w vn n) (hi : i < n.pipes.length) :
    Calls Tryz.prog 13 #[vn, .int .i64 (i : Int)] w (RetB w (.int .i64 (n.pipeErr i))) := by
  obtain ⟨A0, k0, c0, A1, k1, c1, A2, k2, c2, A3, k3, c3, rfl, hn0, hn1, hn2, hn3⟩ := hn
  have hk0 : k0 = n.nodes.length := by obtain ⟨A', c', e, _⟩ := hn0; injection e
  have hk1 : k1 = n.pipes.length := by obtain ⟨A', c', e, _⟩ := hn1; injection e
  have hx := ext_alloc w (.cells #[.slice A0 k0 c0, .slice A1 k1 c1, .slice A2 k2 c2, .slice A3 k3 c3] 26)
  have hp := hn1.below hx
  obtain ⟨ad, rfl, hb, p0, p1, p2, p3, p4⟩ := hp.at_ hi
  have h1000 : k1 ≤ 1000 := by obtain ⟨A', c', e, _, _, h6, _⟩ := hn1; omega
  have hi1 : i < k1 := by omega
  have HK0 := hide hk0
  have HK1 := hide hk1
  have HE := hide (pipeErr_get n hi)
  have HS : Hid (SmallS n.pipes[i].name ∧ SmallS n.pipes[i].low ∧ SmallS n.pipes[i].high) := by
    obtain ⟨A', c', e, _, _, h6, _, h7⟩ := hn1
    exact h7 _ (List.getElem_mem hi)
  have HPP := hide hp
  have HX := hide hx
  clear hn0 hn1 hn2 hn3 hp hx hk0 hk1
  go_enter Tryz.func13, Tryz.ntmps13
  go_wp2_with fail
  have HKP : Hid (Blk ((w.alloc (.cells #[.slice A0 k0 c0, .slice (some ad) k1 c1, .slice A2 k2 c2, .slice A3 k3 c3] 26)).alloc (.cells #[str n.pipes[i].name, .int .i64 n.pipes[i].from_, .int .i64 n.pipes[i].to_, str n.pipes[i].low, str n.pipes[i].high] 33)) (w.heap.size + 1) 33 #[str n.pipes[i].name, .int .i64 n.pipes[i].from_, .int .i64 n.pipes[i].to_, str n.pipes[i].low, str n.pipes[i].high]) := by
    have h := Blk.new (w.alloc (.cells #[.slice A0 k0 c0, .slice (some ad) k1 c1, .slice A2 k2 c2, .slice A3 k3 c3] 26)) 33 #[str n.pipes[i].name, .int .i64 n.pipes[i].from_, .int .i64 n.pipes[i].to_, str n.pipes[i].low, str n.pipes[i].high]
    simp only [World.size_alloc] at h
    exact h
  have hy := ext_alloc (w.alloc (.cells #[.slice A0 k0 c0, .slice (some ad) k1 c1, .slice A2 k2 c2, .slice A3 k3 c3] 26)) (.cells #[str n.pipes[i].name, .int .i64 n.pipes[i].from_, .int .i64 n.pipes[i].to_, str n.pipes[i].low, str n.pipes[i].high] 33)
  have HKN := hide ((Blk.new w 26 #[.slice A0 k0 c0, .slice (some ad) k1 c1, .slice A2 k2 c2, .slice A3 k3 c3]).below hy (Blk.new w 26 #[.slice A0 k0 c0, .slice (some ad) k1 c1, .slice A2 k2 c2, .slice A3 k3 c3]).lt)
  have HW := hide (ext HX.out hy)
  have HPL := hide (HPP.out.below hy)
  clear HPP HX p0 p1 p2 p3 p4 hb hy
  generalize (w.alloc (.cells #[.slice A0 k0 c0, .slice (some ad) k1 c1, .slice A2 k2 c2, .slice A3 k3 c3] 26)).alloc (.cells #[str n.pipes[i].name, .int .i64 n.pipes[i].from_, .int .i64 n.pipes[i].to_, str n.pipes[i].low, str n.pipes[i].high] 33) = W at HKP HKN HW HPL ⊢
  refine (ref_name _ W (by have := HS.out.1; rw [← bts_length, bts_mk]; exact this)).mono ?_
  rintro e w1 ⟨rfl, rfl⟩
  rw [bts_mk]
  cases hnm : isName n.pipes[i].name with
  | false =>
    have HF := hide (HE.out.trans (if_pos hnm))
    clear hnm
    go_wp2_with fail
    go_ret
    exact ⟨ret_i64' HF.out, HW.out⟩
  | true =>
    have HE2 := hide (HE.out.trans (if_neg (by rw [hnm]; decide)))
    clear hnm HE
    go_wp2_with fail
    go_loopw [6] (PipR n.pipes n.pipes[i].name i w #[.slice A0 k0 c0, .slice (some ad) k1 c1, .slice A2 k2 c2, .slice A3 k3 c3] #[str n.pipes[i].name, .int .i64 n.pipes[i].from_, .int .i64 n.pipes[i].to_, str n.pipes[i].low, str n.pipes[i].high] (.slice (some ad) k1 c1)) (fun iv _ => i - (intOf iv).toNat)
    case atStart => exact ⟨0, Nat.zero_le _, rfl, fun j _ h => by omega, HKN, HKP, HW, HPL⟩
    case round =>
      clear HKN HKP HW HPL
      obtain ⟨j, hj, rfl, HJ, HKN, HKP, HW, HPL⟩ := hrel
      have r0 := HKN.out.cell 0
      have r1 := HKN.out.cell 1
      have r2 := HKN.out.cell 2
      have r3 := HKN.out.cell 3
      have s0 := HKP.out.cell 0
      have s1 := HKP.out.cell 1
      have s2 := HKP.out.cell 2
      have s3 := HKP.out.cell 3
      have s4 := HKP.out.cell 4
      simp at r0 r1 r2 r3 s0 s1 s2 s3 s4
      by_cases hji : j < i
      · obtain ⟨ad1, e1, hb, p0, _⟩ := HPL.out.at_ (show j < n.pipes.length by omega)
        injection e1 with e1
        subst e1
        have hjl : j < n.pipes.length := by omega
        have hj1 : j < k1 := by omega
        by_cases hz : n.pipes[j].name = n.pipes[i].name
        · have hI : (n.pipes[j].name == n.pipes[i].name) = true := by rw [beq_iff_eq]; exact hz
          have HF := hide (HE2.out.trans (if_pos ((mem_take_name (by omega)).2 ⟨j, hjl, hji, hz⟩)))
          clear hz HE2
          go_wp2_with fail
          go_quiet (fail)
          go_wp2_with fail
          go_ret
          exact ⟨ret_i64' HF.out, below_drewN HW.out _⟩
        · have hI : (n.pipes[j].name == n.pipes[i].name) = false := by rw [beq_eq_false_iff_ne]; exact hz
          have HZ := hide hz
          clear hz
          go_wp2_with fail
          go_quiet (fail)
          go_wp2_with fail
          go_round
          case rel =>
            refine ⟨j + 1, by omega, by go_num, ?_, HKN.out.below (ext_drewN _ _) HKN.out.lt, HKP.out.below (ext_drewN _ _) HKP.out.lt, below_drewN HW.out _, HPL.out.below (ext_drewN _ _)⟩
            intro m hm hlt2
            rcases Nat.lt_or_ge m j with h3 | h3
            · exact HJ.out m hm h3
            · obtain rfl : m = j := by omega
              exact HZ.out
          case measure => simp [intOf]; omega
      · obtain rfl : j = i := by omega
        have hnm : ¬ n.pipes[j].name ∈ (n.pipes.take j).map (·.name) := by
          intro hm
          obtain ⟨m, hm, hmj, hz⟩ := (mem_take_name (by omega)).1 hm
          exact HJ.out m hm hmj hz
        have HE3 := HE2.out.trans (if_neg hnm)
        rw [← HK0.out] at HE3
        have h1 := fun v1 v2 v3 w => ref_there A0 k0 c0 v1 v2 v3 n.pipes[j].from_ w
        have h2 := fun v1 v2 v3 w => ref_there A0 k0 c0 v1 v2 v3 n.pipes[j].to_ w
        obtain ⟨t1, ht1⟩ : ∃ t1, (decide (0 ≤ n.pipes[j].from_) && decide (n.pipes[j].from_ < (k0 : Int))) = t1 := ⟨_, rfl⟩
        obtain ⟨t2, ht2⟩ : ∃ t2, (decide (0 ≤ n.pipes[j].to_) && decide (n.pipes[j].to_ < (k0 : Int))) = t2 := ⟨_, rfl⟩
        simp only [ht1] at h1 HE3
        simp only [ht2] at h2 HE3
        have HE4 := hide HE3
        clear ht1 ht2 hnm HE2 HE3 HJ
        go_wp2_with fail
        refine (h1 _ _ _ _).mono ?_
        rintro e WN ⟨rfl, hbB⟩
        try clear r0 r1 r2 r3 rL s0 s1 s2 s3 s4 sL
        have HKN_ := hide (HKN.out.below hbB HKN.out.lt)
        have HKP_ := hide (HKP.out.below hbB HKP.out.lt)
        have HW_ := hide (ext HW.out hbB)
        clear HKN HKP HW
        have HKN := HKN_
        have HKP := HKP_
        have HW := HW_
        clear HKN_ HKP_ HW_
        clear hbB
        have r0 := HKN.out.cell 0
        have r1 := HKN.out.cell 1
        have r2 := HKN.out.cell 2
        have r3 := HKN.out.cell 3
        have rL := HKN.out.lt
        have s0 := HKP.out.cell 0
        have s1 := HKP.out.cell 1
        have s2 := HKP.out.cell 2
        have s3 := HKP.out.cell 3
        have s4 := HKP.out.cell 4
        have sL := HKP.out.lt
        simp at r0 r1 r2 r3 s0 s1 s2 s3 s4
        clear h1
        cases t1 with
        | false =>
          have HF := hide (HE4.out.trans (if_pos (.inl rfl)))
          clear h2 HE4
          go_wp2_with fail
          go_ret
          exact ⟨ret_i64' HF.out, HW.out⟩
        | true =>
          go_wp2_with fail
          refine (h2 _ _ _ _).mono ?_
          rintro e WN ⟨rfl, hbB⟩
          try clear r0 r1 r2 r3 rL s0 s1 s2 s3 s4 sL
          have HKN_ := hide (HKN.out.below hbB HKN.out.lt)
          have HKP_ := hide (HKP.out.below hbB HKP.out.lt)
          have HW_ := hide (ext HW.out hbB)
          clear HKN HKP HW
          have HKN := HKN_
          have HKP := HKP_
          have HW := HW_
          clear HKN_ HKP_ HW_
          clear hbB
          have r0 := HKN.out.cell 0
          have r1 := HKN.out.cell 1
          have r2 := HKN.out.cell 2
          have r3 := HKN.out.cell 3
          have rL := HKN.out.lt
          have s0 := HKP.out.cell 0
          have s1 := HKP.out.cell 1
          have s2 := HKP.out.cell 2
          have s3 := HKP.out.cell 3
          have s4 := HKP.out.cell 4
          have sL := HKP.out.lt
          simp at r0 r1 r2 r3 s0 s1 s2 s3 s4
          clear h2
          cases t2 with
          | false =>
            have HF := hide (HE4.out.trans (if_pos (.inr rfl)))
            clear HE4
            go_wp2_with fail
            go_ret
            exact ⟨ret_i64' HF.out, HW.out⟩
          | true =>
            have HE5 := hide (HE4.out.trans (if_neg (by simp)))
            clear HE4
            by_cases hft : n.pipes[j].from_ = n.pipes[j].to_
            · have hI : (n.pipes[j].from_ == n.pipes[j].to_) = true := by rw [beq_iff_eq]; exact hft
              have HF := hide (HE5.out.trans (if_pos hft))
              clear hft HE5
              go_wp2_with fail
              go_ret
              exact ⟨ret_i64' HF.out, HW.out⟩
            · have hI : (n.pipes[j].from_ == n.pipes[j].to_) = false := by rw [beq_eq_false_iff_ne]; exact hft
              have HE6 := hide (HE5.out.trans (if_neg hft))
              clear hft HE5
              have hl := fun w => ref_numbererr ⟨n.pipes[j].low.toArray⟩ w (by have := HS.out.2.1; rw [← bts_length, bts_mk]; exact this)
              have hh := fun w => ref_numbererr ⟨n.pipes[j].high.toArray⟩ w (by have := HS.out.2.2; rw [← bts_length, bts_mk]; exact this)
              rw [bts_mk] at hl hh
              go_wp2_with fail
              refine (hl _).mono ?_
              rintro e WN ⟨rfl, hbB⟩
              try clear r0 r1 r2 r3 rL s0 s1 s2 s3 s4 sL
              have HKN_ := hide (HKN.out.below hbB HKN.out.lt)
              have HKP_ := hide (HKP.out.below hbB HKP.out.lt)
              have HW_ := hide (ext HW.out hbB)
              clear HKN HKP HW
              have HKN := HKN_
              have HKP := HKP_
              have HW := HW_
              clear HKN_ HKP_ HW_
              clear hbB
              have r0 := HKN.out.cell 0
              have r1 := HKN.out.cell 1
              have r2 := HKN.out.cell 2
              have r3 := HKN.out.cell 3
              have rL := HKN.out.lt
              have s0 := HKP.out.cell 0
              have s1 := HKP.out.cell 1
              have s2 := HKP.out.cell 2
              have s3 := HKP.out.cell 3
              have s4 := HKP.out.cell 4
              have sL := HKP.out.lt
              simp at r0 r1 r2 r3 s0 s1 s2 s3 s4
              clear hl
              by_cases h0 : numErr n.pipes[j].low = 0
              · rw [h0]
                have HE7 := hide (HE6.out.trans (if_neg (by rw [h0]; decide)))
                clear HE6
                go_wp2_with fail
                refine (hh _).mono ?_
                rintro e WN ⟨rfl, hbB⟩
                try clear r0 r1 r2 r3 rL s0 s1 s2 s3 s4 sL
                have HKN_ := hide (HKN.out.below hbB HKN.out.lt)
                have HKP_ := hide (HKP.out.below hbB HKP.out.lt)
                have HW_ := hide (ext HW.out hbB)
                clear HKN HKP HW
                have HKN := HKN_
                have HKP := HKP_
                have HW := HW_
                clear HKN_ HKP_ HW_
                clear hbB
                have r0 := HKN.out.cell 0
                have r1 := HKN.out.cell 1
                have r2 := HKN.out.cell 2
                have r3 := HKN.out.cell 3
                have rL := HKN.out.lt
                have s0 := HKP.out.cell 0
                have s1 := HKP.out.cell 1
                have s2 := HKP.out.cell 2
                have s3 := HKP.out.cell 3
                have s4 := HKP.out.cell 4
                have sL := HKP.out.lt
                simp at r0 r1 r2 r3 s0 s1 s2 s3 s4
                clear hh
                by_cases h0' : numErr n.pipes[j].high = 0
                · rw [h0']
                  have HE8 := hide (HE7.out.trans (if_neg (by rw [h0']; decide)))
                  clear HE7
                  obtain ⟨ql, hl1, hl2, hl3, _⟩ := numErr_ok h0
                  obtain ⟨qh, hh1, hh2, hh3, _⟩ := numErr_ok h0'
                  rw [hl3, hh3] at HE8
                  have HNL := hide ((read_nlen hl1).mono (show 50000 ≤ 8388608 by omega))
                  have HNH := hide ((read_nlen hh1).mono (show 50000 ≤ 8388608 by omega))
                  have hml : ∀ w, Calls Tryz.prog 33 #[str n.pipes[j].low] w (NewRef w ql) := fun w => ref_must ⟨n.pipes[j].low.toArray⟩ ql w (by have := HS.out.2.1; rw [← bts_length, bts_mk]; exact this) (by rw [bts_mk]; exact hl1)
                  have hmh : ∀ w, Calls Tryz.prog 33 #[str n.pipes[j].high] w (NewRef w qh) := fun w => ref_must ⟨n.pipes[j].high.toArray⟩ qh w (by have := HS.out.2.2; rw [← bts_length, bts_mk]; exact this) (by rw [bts_mk]; exact hh1)
                  clear hl1 hl2 hl3 hh1 hh2 hh3 h0 h0' HS HPL
                  generalize str n.pipes[j].low = sl at HKP s3 hml
                  generalize str n.pipes[j].high = sh at HKP s4 hmh
                  rcases sgn3 ql with ⟨hs, hz⟩ | ⟨hs, hz⟩ | ⟨hs, hz⟩
                  rotate_right
                  · have HSG := hide hz
                    clear hz
                    obtain ⟨so, HSO⟩ : ∃ so, Hid ((ql - qh).num.sign = so) := ⟨_, hide rfl⟩
                    go_wp2_with fail
                    (first | (go_region_held3 (fun w' => Hid (Below WN.heap.size WN w') ∧ w'.cell? ⟨w.heap.size + 1, 3, none⟩ = some (sl) ∧ w'.cell? ⟨w.heap.size + 1, 4, none⟩ = some (sh) ∧ w.heap.size + 1 < w'.heap.size)
                      (first
                        | (with_reducible refine and_keep ?_ (fun hB => ⟨cellB hB sL s3, cellB hB sL s4, sizeB hB sL⟩); with_reducible exact hid_drawn _)
                        | (go_split_ands; with_reducible refine and_keep ?_ (fun hB => ⟨cellB hB sL s3, cellB hB sL s4, sizeB hB sL⟩); first | with_reducible exact hid_below (by assumption) (by assumption) | with_reducible exact hid_alloc (by assumption) | with_reducible exact hid_alloc_drawn _ _))
                      (first
                        | (go_at_call_of 33 sl; refine (hml _).mono ?_; rintro e w1 ⟨v1, rfl, hv1, hb1⟩; have HM1 := hide hv1; clear hv1)
                        | (go_at_call 32; refine (ref_sign _ ql _ HM1.out).mono ?_; rw [HSG.out]; rintro e w2 ⟨rfl, hb2⟩)
                        | (go_at_call_of 33 sh; refine (hmh _).mono ?_; rintro e w3 ⟨v3, rfl, hv3, hb3⟩; have HM3 := hide hv3; clear hv3)
                        | (go_at_call 34; refine (ref_order_num _ _ ql qh _ (HM1.out.below hb3) HM3.out HNL.out HNH.out).mono ?_; rw [HSO.out]; rintro e w4 ⟨rfl, hb4⟩))) | fail "region")
                    go_split_ands
                    have HBZ := unhide (by assumption : Hid (Below WN.heap.size WN _))
                    obtain ⟨w4, hWX, HBY⟩ := (⟨_, rfl, HBZ⟩ : ∃ X, X = _ ∧ Below WN.heap.size WN X)
                    rw [← hWX]
                    clear hWX HBZ
                    try clear r0 r1 r2 r3 rL s0 s1 s2 s3 s4 sL
                    have HKN_ := hide (HKN.out.below HBY HKN.out.lt)
                    have HKP_ := hide (HKP.out.below HBY HKP.out.lt)
                    have HW_ := hide (ext HW.out HBY)
                    clear HKN HKP HW
                    have HKN := HKN_
                    have HKP := HKP_
                    have HW := HW_
                    clear HKN_ HKP_ HW_
                    clear HBY
                    have r0 := HKN.out.cell 0
                    have r1 := HKN.out.cell 1
                    have r2 := HKN.out.cell 2
                    have r3 := HKN.out.cell 3
                    have rL := HKN.out.lt
                    have s0 := HKP.out.cell 0
                    have s1 := HKP.out.cell 1
                    have s2 := HKP.out.cell 2
                    have s3 := HKP.out.cell 3
                    have s4 := HKP.out.cell 4
                    have sL := HKP.out.lt
                    simp at r0 r1 r2 r3 s0 s1 s2 s3 s4
                    by_cases hlt : qh < ql
                    · have HF := hide (HE8.out.trans (if_pos (.inr hlt)))
                      have hd2 := sub_sign.2 hlt
                      rw [HSO.out] at hd2
                      clear hlt HE8
                      go_wp2_with fail
                      go_ret
                      exact ⟨ret_i64' HF.out, HW.out⟩
                    · have HF := hide (HE8.out.trans (if_neg (by rintro (h | h); exact hs h; exact hlt h)))
                      have hd3 : ¬ 0 < (ql - qh).num.sign := fun h => hlt (sub_sign.1 h)
                      rw [HSO.out] at hd3
                      have hd2 : so ≤ 0 := by omega
                      clear hd3
                      clear hlt HE8
                      go_wp2_with fail
                      go_ret
                      exact ⟨ret_i64' HF.out, HW.out⟩
                  all_goals
                    have HF := hide (HE8.out.trans (if_pos (.inl hs)))
                    have HSG := hide hz
                    clear hz hs HE8 HNL HNH hmh
                    go_wp2_with fail
                    (first | (go_region_with (first
                      | (go_at_call 33; refine (hml _).mono ?_; rintro e w1 ⟨v1, rfl, hv1, hb1⟩; have HM1 := hide hv1; clear hv1)
                      | (go_at_call 32; refine (ref_sign _ ql _ HM1.out).mono ?_; rw [HSG.out]; rintro e w2 ⟨rfl, hb2⟩))) | fail "region")
                    all_goals
                      clear r0 r1 r2 r3 s0 s1 s2 s3 s4
                      have HWA := hide (ext (ext (below_drewN HW.out 1) hb1) hb2)
                      go_wp2_with fail
                      go_ret
                      exact ⟨ret_i64' HF.out, HWA.out⟩
                · have hI2 : (numErr n.pipes[j].high != 0) = true := by rw [bne_iff_ne]; exact h0'
                  have HF := hide (HE7.out.trans (if_pos h0'))
                  clear HE7
                  generalize numErr n.pipes[j].high = ev at hI2 HF ⊢
                  go_wp2_with fail
                  go_ret
                  exact ⟨ret_i64' HF.out, HW.out⟩
              · have hI2 : (numErr n.pipes[j].low != 0) = true := by rw [bne_iff_ne]; exact h0
                have HF := hide (HE6.out.trans (if_pos h0))
                clear HE6
                generalize numErr n.pipes[j].low = ev at hI2 HF ⊢
                go_wp2_with fail
                go_ret
                exact ⟨ret_i64' HF.out, HW.out⟩
end Go.Proofs.YtmeagiodcnfmgaaGreat
