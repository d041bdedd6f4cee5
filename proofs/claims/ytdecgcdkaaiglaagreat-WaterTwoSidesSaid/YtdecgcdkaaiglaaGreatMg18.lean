/- The walks of quotients (4): the text, whether it is long, what is told. · The walk of rational: the number of a text. · The walks of what package exact exports: Valid, Add, Sub, Mul, Div, Cmp. · The walks of what package exact exports (2): Add, Sub, Mul, Div, Cmp; PRINTED by gen_rat7.py. · The walks of the program's net (1): names, numbers, errors of numbers. · A net in memory. · The walks of the reference's net (1): level. · The walks of the reference's net (2): levels. · The walks of the reference's net (3): pipe. · Plain: elimination in tables of texts; no program in sight. -/
import Derived.Below
import Derived.BigQuiet
import Derived.BigRegion
import Derived.Deep.AppendLies
import Derived.Deep.CutBlock
import Derived.Deep.DeepCutAuto
import Derived.Deep.DeepMust
import Derived.Deep.DrawnRows
import Derived.Deep.Draws
import Derived.Deep.OwnRows
import Derived.Deep.QuietTactic
import Derived.Deep.RegionHeld3
import Derived.Deep.RegionLawGrows
import Derived.Deep.RegionWith
import Derived.IntWalk
import Derived.Laws.BitsAllLaws
import Derived.Laws.MathBits
import Derived.Laws.OwnMore
import Derived.Laws.Rows
import Derived.Lib.BitFns
import Derived.Lib.Bytealg
import Derived.Lib.Index
import Derived.Lib.Slices
import Derived.Lib.Small
import Derived.Lib.Strings
import Derived.Lib.Walk
import Derived.LoopN
import Derived.Maps.AppendAt
import Derived.OwnWalk
import Derived.RegionTactic
import Derived.StillTailTactics
import Derived.WalkKit
import Derived.WalkLawsBesides
import Derived.WalkSpells
import Init.Data.List.Lemmas
import Derived.Test.YtdecgcdkaaiglaaGreatMg01
import Derived.Test.YtdecgcdkaaiglaaGreatMg14
import Derived.Test.YtdecgcdkaaiglaaGreatMg17
import Derived.Test.YtdecgcdkaaiglaaGreatMg16
import Derived.Test.YtdecgcdkaaiglaaGreatMg12
set_option linter.unusedVariables false
set_option linter.unusedSimpArgs false
namespace Go.Proofs.YtdecgcdkaaiglaaGreat
open Go.RowKit Go.Deep
attribute [local go_sem ↓] Go.wp_at_zero Go.wp_at_succ
theorem intText_len {z : Int} (h : len 4294967296 z.natAbs ≤ 67108864) : (intText z).length ≤ 671088642 := by
  have := dec_len_le h
  unfold intText
  split
  · rw [List.length_cons]; omega
  · omega
theorem fracText_one {q : Rat} (h : q.den = 1) : fracText q = intText q.num := by
  unfold fracText intText
  rw [if_pos h]
  by_cases h0 : q.num < 0
  · rw [if_pos h0, if_pos h0]; simp
  · rw [if_neg h0, if_neg h0]; simp
theorem fracText_two {q : Rat} (h : q.den ≠ 1) : fracText q = intText q.num ++ 47 :: intText (q.den : Int) := by
  have hd : intText (q.den : Int) = dec q.den := by unfold intText; rw [if_neg (by omega), Int.natAbs_natCast]
  rw [hd]
  unfold fracText intText
  rw [if_neg h]
  by_cases h0 : q.num < 0
  · rw [if_pos h0, if_pos h0]; simp
  · rw [if_neg h0, if_neg h0]; simp
theorem str_app (a b : List UInt8) : (⟨a.toArray⟩ : ByteArray) ++ (⟨b.toArray⟩ : ByteArray) = ⟨(a ++ b).toArray⟩ := by
  apply ByteArray.ext
  rw [ByteArray.data_append]
  simp
theorem NumIs.one {w : World} {y d : Int} {B : Option Addr} {k c : Nat} {t : Bool} (h : NumIs w (.agg #[.int .i64 y, .slice B k c, .bool t]) d) : d = 1 ↔ (B = none ∧ y = 1) := by
  rcases h with ⟨x, ng, e, h1, h2, rfl⟩ | ⟨ad, k', c', n, ng, e, h1, h2, rfl⟩
  · injection e with e
    have e0 := congrArg (fun a => a.toList) e
    simp at e0
    obtain ⟨rfl, ⟨rfl, rfl, rfl⟩, rfl⟩ := e0
    simp
  · injection e with e
    have e0 := congrArg (fun a => a.toList) e
    simp at e0
    obtain ⟨rfl, ⟨rfl, rfl, rfl⟩, rfl⟩ := e0
    constructor
    · intro h
      split at h <;> omega
    · intro h; cases h.1
set_option maxRecDepth 100000 in
set_option maxHeartbeats 8000000 in
theorem frac_any (va : Value) (q : Rat) (w : World) (ha : RatIs w va q) (hl : RLen 67108864 q) :
    Calls Tryz.prog 121 #[va] w (NewStr w (fracText q)) := by
  obtain ⟨x1, A1, k1, c1, s1, y1, B1, k1x, c1x, t1, rfl, ha1, ha2⟩ := ha
  have h1 := NumIs.one ha2
  have HB := hide (ext_alloc w (.cells #[.int .i64 x1, .slice A1 k1 c1, .bool s1, .int .i64 y1, .slice B1 k1x c1x, .bool t1] 71))
  have HA := hide (ha1.below HB.out)
  have HAN := hide ha1
  have HAD := hide ha2
  have HL1 := hide hl.1
  have HL2 := hide hl.2
  have q0 := fun w => eqlN w B1 k1x c1x 0 0
  by_cases hd : q.den = 1
  · obtain ⟨rfl, rfl⟩ := h1.1 (by omega)
    rw [fracText_one hd]
    clear h1 ha1 ha2 hd hl
    go_enter Tryz.func121, Tryz.ntmps121
    go_wp2_with fail
    refine (text_any _ q.num _ HA.out HL1.out).mono ?_
    rintro e w1 ⟨rfl, hb1⟩
    go_wp2
    go_ret
    exact ⟨rfl, ext HB.out hb1⟩
  · have hl1 := intText_len HL1.out
    have hl2 := intText_len HL2.out
    have HT := hide (fracText_two hd)
    have hno : ¬ (B1 = none ∧ y1 = 1) := fun h => hd (by have := h1.2 h; omega)
    have hs1 : ¬ 9223372036854775807 < (intText q.num).length + 1 := by omega
    have hs2 : ¬ 9223372036854775807 < (intText q.num).length + 1 + (intText (q.den : Int)).length := by omega
    clear h1 ha1 ha2 hd hl hl1 hl2
    have hB0 : B1 = none → ((y1 : Int) == 1) = false := by
      intro e
      rw [beq_eq_false_iff_ne]
      exact fun h => hno ⟨e, h⟩
    clear hno
    rcases B1 with _ | bd
    · have hy1 := hB0 rfl
      clear hB0
      have HWX : Hid (Below w.heap.size w ((w.alloc (.cells #[.int .i64 x1, .slice A1 k1 c1, .bool s1, .int .i64 y1, .slice none k1x c1x, .bool t1] 71)).drew)) := hide (below_drewN HB.out 1)
      clear HB HA
      go_enter Tryz.func121, Tryz.ntmps121
      go_wp2_with fail
      go_region_held3 (fun w' => w'.cell? ⟨w.heap.size, 0, none⟩ = some (.int .i64 x1) ∧ w'.cell? ⟨w.heap.size, 1, none⟩ = some (.slice A1 k1 c1) ∧ w'.cell? ⟨w.heap.size, 2, none⟩ = some (.bool s1) ∧ w'.cell? ⟨w.heap.size, 3, none⟩ = some (.int .i64 y1) ∧ w'.cell? ⟨w.heap.size, 4, none⟩ = some (.slice none k1x c1x) ∧ w'.cell? ⟨w.heap.size, 5, none⟩ = some (.bool t1) ∧ w.heap.size < w'.heap.size ∧ Hid (Below w.heap.size w w'))
        (first
          | with_reducible exact ⟨by go_keep, by go_keep, by go_keep, by go_keep, by go_keep, by go_keep, by first | (simp; done) | (simp; omega), HWX⟩
          | (go_split_ands; with_reducible exact ⟨cell_keep (by assumption) (by assumption) (by assumption), cell_keep (by assumption) (by assumption) (by assumption), cell_keep (by assumption) (by assumption) (by assumption), cell_keep (by assumption) (by assumption) (by assumption), cell_keep (by assumption) (by assumption) (by assumption), cell_keep (by assumption) (by assumption) (by assumption), size_keep (by assumption) (by assumption), hid_below (by assumption) (by assumption)⟩)
          | go_keep)
        (first
          | (go_at_call_of 154 (Value.agg #[.int .i64 x1, .slice A1 k1 c1, .bool s1]); refine (text_any _ q.num _ (HAN.out.below (unhide (by go_split_ands; assumption))) HL1.out).mono ?_; rintro e w1 ⟨rfl, hb1⟩)
          | (go_at_call_of 154 (Value.agg #[.int .i64 y1, .slice none k1x c1x, .bool t1]); refine (text_any _ (q.den : Int) _ (HAD.out.below (unhide (by go_split_ands; assumption))) HL2.out).mono ?_; rintro e w2 ⟨rfl, hb2⟩))
      all_goals
        go_split_ands
        have hRW := unhide (by assumption : Hid (Below w.heap.size w w2))
        go_wp2
        go_ret
        refine ⟨?_, hRW⟩
        rw [HT.out, show intText q.num ++ 47 :: intText (q.den : Int) = (intText q.num ++ [47]) ++ intText (q.den : Int) by simp, ← str_app, ← str_app]
        rfl
    · clear hB0
      have HWX : Hid (Below w.heap.size w ((w.alloc (.cells #[.int .i64 x1, .slice A1 k1 c1, .bool s1, .int .i64 y1, .slice (some bd) k1x c1x, .bool t1] 71)).drew)) := hide (below_drewN HB.out 1)
      clear HB HA
      go_enter Tryz.func121, Tryz.ntmps121
      go_wp2_with fail
      go_region_held3 (fun w' => w'.cell? ⟨w.heap.size, 0, none⟩ = some (.int .i64 x1) ∧ w'.cell? ⟨w.heap.size, 1, none⟩ = some (.slice A1 k1 c1) ∧ w'.cell? ⟨w.heap.size, 2, none⟩ = some (.bool s1) ∧ w'.cell? ⟨w.heap.size, 3, none⟩ = some (.int .i64 y1) ∧ w'.cell? ⟨w.heap.size, 4, none⟩ = some (.slice (some bd) k1x c1x) ∧ w'.cell? ⟨w.heap.size, 5, none⟩ = some (.bool t1) ∧ w.heap.size < w'.heap.size ∧ Hid (Below w.heap.size w w'))
        (first
          | with_reducible exact ⟨by go_keep, by go_keep, by go_keep, by go_keep, by go_keep, by go_keep, by first | (simp; done) | (simp; omega), HWX⟩
          | (go_split_ands; with_reducible exact ⟨cell_keep (by assumption) (by assumption) (by assumption), cell_keep (by assumption) (by assumption) (by assumption), cell_keep (by assumption) (by assumption) (by assumption), cell_keep (by assumption) (by assumption) (by assumption), cell_keep (by assumption) (by assumption) (by assumption), cell_keep (by assumption) (by assumption) (by assumption), size_keep (by assumption) (by assumption), hid_below (by assumption) (by assumption)⟩)
          | go_keep)
        (first
          | (go_at_call_of 154 (Value.agg #[.int .i64 x1, .slice A1 k1 c1, .bool s1]); refine (text_any _ q.num _ (HAN.out.below (unhide (by go_split_ands; assumption))) HL1.out).mono ?_; rintro e w1 ⟨rfl, hb1⟩)
          | (go_at_call_of 154 (Value.agg #[.int .i64 y1, .slice (some bd) k1x c1x, .bool t1]); refine (text_any _ (q.den : Int) _ (HAD.out.below (unhide (by go_split_ands; assumption))) HL2.out).mono ?_; rintro e w2 ⟨rfl, hb2⟩))
      all_goals
        go_split_ands
        have hRW := unhide (by assumption : Hid (Below w.heap.size w w2))
        go_wp2
        go_ret
        refine ⟨?_, hRW⟩
        rw [HT.out, show intText q.num ++ 47 :: intText (q.den : Int) = (intText q.num ++ [47]) ++ intText (q.den : Int) by simp, ← str_app, ← str_app]
        rfl
theorem short_or (M : Nat) (q : Rat) : (!decide (Short M q)) = (decide (M < (dec q.num.natAbs).length) || decide (M < (dec q.den).length)) := by
  by_cases h1 : (dec q.num.natAbs).length ≤ M
  · by_cases h2 : (dec q.den).length ≤ M
    · rw [decide_eq_true (show Short M q from ⟨h1, h2⟩), decide_eq_false (by omega), decide_eq_false (by omega)]; rfl
    · rw [decide_eq_false (fun h : Short M q => h2 h.2), decide_eq_true (show M < (dec q.den).length by omega), Bool.or_true]; rfl
  · rw [decide_eq_false (fun h : Short M q => h1 h.1), decide_eq_true (show M < (dec q.num.natAbs).length by omega)]; rfl
theorem NatIs.slice {w : World} {v : Value} {n : Nat} (h : NatIs w v n) : ∃ A c, v = .slice A (len 4294967296 n) c := by
  obtain ⟨A', c', ds, e, h1, h2, h3, h4, h5⟩ := h
  refine ⟨A', c', ?_⟩
  rw [e, ← h5, h4.length_eq (by omega)]
theorem dec_le_len {n M : Nat} (h : len 4294967296 n * 10 ≤ M) (hM : 1 ≤ M) : (dec n).length ≤ M := by
  by_cases h0 : n = 0
  · subst h0; rw [dec_zero]; simpa using hM
  · rw [dec_length n h0]
    have h4 : len 10 n ≤ 10 * len 4294967296 n := by
      apply len_le_of_lt (by omega)
      have h1 := lt_pow_len (β := 4294967296) (by omega) n
      have h2 : 4294967296 ^ len 4294967296 n ≤ (10 ^ 10) ^ len 4294967296 n := Nat.pow_le_pow_left (by omega) _
      rw [← Nat.pow_mul] at h2
      exact Nat.lt_of_lt_of_le h1 h2
    omega
set_option maxRecDepth 100000 in
set_option maxHeartbeats 8000000 in
theorem long_any (va : Value) (q : Rat) (M : Nat) (w : World) (ha : RatIs w va q) (hl : RLen 67108864 q) (h1M : 1 ≤ M) (hM2 : M ≤ 1000000) :
    Calls Tryz.prog 120 #[va, .int .i64 M] w (RetB w (.bool (!decide (Short M q)))) := by
  obtain ⟨x1, A1, k1, c1, s1, y1, B1, k1x, c1x, t1, rfl, ha1, ha2⟩ := ha
  have hW := ext_alloc w (.cells #[.int .i64 x1, .slice A1 k1 c1, .bool s1, .int .i64 y1, .slice B1 k1x c1x, .bool t1] 71)
  have HA := hide (ha1.below hW)
  have HD := hide (ha2.below hW)
  have HW := hide hW
  have HL1 := hide hl.1
  have HL2 := hide hl.2
  have kB := Blk.new w 71 #[.int .i64 x1, .slice A1 k1 c1, .bool s1, .int .i64 y1, .slice B1 k1x c1x, .bool t1]
  have HK := hide kB
  clear ha1 ha2 hl hW kB
  go_enter Tryz.func120, Tryz.ntmps120
  go_wp2_with fail
  refine (parts_any _ q.num _ HA.out).mono ?_
  rintro e w1 ⟨p, rfl, hp, hb1⟩
  have kB1 := HK.out.below hb1 HK.out.lt
  have b3 := kB1.cell 3
  have b4 := kB1.cell 4
  have b5 := kB1.cell 5
  simp at b3 b4 b5
  have HP := hide hp
  have HB1 := hide hb1
  clear hp hb1 kB1
  go_wp2_with fail
  refine (parts_any _ (q.den : Int) _ (HD.out.below HB1.out)).mono ?_
  rintro e w2 ⟨p', rfl, hp', hb2⟩
  obtain ⟨A2, c2, rfl⟩ := HP.out.slice
  obtain ⟨A3, c3, rfl⟩ := hp'.slice
  have HP2 := hide (HP.out.below hb2)
  have HP' := hide hp'
  have HW2 := hide (ext (ext HW.out HB1.out) hb2)
  clear b3 b4 b5 hp' hb2
  have hk1 : len 4294967296 q.num.natAbs ≤ 67108864 := HL1.out
  have hk2 : len 4294967296 (q.den : Int).natAbs ≤ 67108864 := HL2.out
  obtain ⟨a, hA⟩ : ∃ a, a = len 4294967296 q.num.natAbs := ⟨_, rfl⟩
  obtain ⟨b, hB⟩ : ∃ b, b = len 4294967296 (q.den : Int).natAbs := ⟨_, rfl⟩
  rw [← hA] at hk1
  rw [← hB] at hk2
  rw [← hA] at HP2
  rw [← hB] at HP'
  have HA' := hide hA
  have HB' := hide hB
  rw [← hA, ← hB]
  clear hA hB
  rcases (show a ≤ b ∨ b < a by omega) with hab | hab
  · by_cases hm : b * 10 ≤ M
    · have HS := hide (show Short M q from ⟨dec_le_len (by rw [← HA'.out]; omega) h1M, by have := dec_le_len (n := (q.den : Int).natAbs) (by rw [← HB'.out]; omega) h1M; rwa [Int.natAbs_natCast] at this⟩)
      have HR := hide (show (!decide (Short M q)) = false by rw [decide_eq_true HS.out]; rfl)
      go_wp2_with fail
      go_ret
      exact ⟨ret_bool HR.out, HW2.out⟩
    · have hm' : ¬ (b : Int) * 10 ≤ (M : Int) := by omega
      have hd1 := dec_len_le HL1.out
      go_wp2_with fail
      refine (nat_text _ _ _ HP2.out HL1.out).mono ?_
      rintro e w3 ⟨rfl, hb3⟩
      have HP3 := hide (HP'.out.below hb3)
      have HW3 := hide (ext HW2.out hb3)
      clear hb3
      by_cases h1 : (dec q.num.natAbs).length ≤ M
      · have hd2 := dec_len_le HL2.out
        have hI1 : ¬ (M : Int) < ((dec q.num.natAbs).length : Int) := by omega
        have HQ := hide h1
        clear h1
        by_cases h2 : (dec (q.den : Int).natAbs).length ≤ M
        · have HR := hide (show (!decide (Short M q)) = false by rw [decide_eq_true ⟨HQ.out, by rw [Int.natAbs_natCast] at h2; exact h2⟩]; rfl)
          have hI2 : ¬ (M : Int) < ((dec (q.den : Int).natAbs).length : Int) := by omega
          clear h2
          go_wp2_with fail
          refine (nat_text _ _ _ HP3.out HL2.out).mono ?_
          rintro e w4 ⟨rfl, hb4⟩
          go_wp2_with fail
          go_ret
          exact ⟨ret_bool (short_or M q), ext HW3.out hb4⟩
        · have HR := hide (show (!decide (Short M q)) = true by rw [decide_eq_false (fun h => h2 (by rw [Int.natAbs_natCast]; exact h.2))]; rfl)
          have hI2 : (M : Int) < ((dec (q.den : Int).natAbs).length : Int) := by omega
          clear h2
          go_wp2_with fail
          refine (nat_text _ _ _ HP3.out HL2.out).mono ?_
          rintro e w4 ⟨rfl, hb4⟩
          go_wp2_with fail
          go_ret
          exact ⟨ret_bool (short_or M q), ext HW3.out hb4⟩
      · have HR := hide (show (!decide (Short M q)) = true by rw [decide_eq_false (fun h => h1 h.1)]; rfl)
        have hI1 : (M : Int) < ((dec q.num.natAbs).length : Int) := by omega
        clear h1
        go_wp2_with fail
        go_ret
        exact ⟨ret_bool HR.out, HW3.out⟩
  · by_cases hm : a * 10 ≤ M
    · have HS := hide (show Short M q from ⟨dec_le_len (by rw [← HA'.out]; omega) h1M, by have := dec_le_len (n := (q.den : Int).natAbs) (by rw [← HB'.out]; omega) h1M; rwa [Int.natAbs_natCast] at this⟩)
      have HR := hide (show (!decide (Short M q)) = false by rw [decide_eq_true HS.out]; rfl)
      go_wp2_with fail
      go_ret
      exact ⟨ret_bool HR.out, HW2.out⟩
    · have hm' : ¬ (a : Int) * 10 ≤ (M : Int) := by omega
      have hd1 := dec_len_le HL1.out
      go_wp2_with fail
      refine (nat_text _ _ _ HP2.out HL1.out).mono ?_
      rintro e w3 ⟨rfl, hb3⟩
      have HP3 := hide (HP'.out.below hb3)
      have HW3 := hide (ext HW2.out hb3)
      clear hb3
      by_cases h1 : (dec q.num.natAbs).length ≤ M
      · have hd2 := dec_len_le HL2.out
        have hI1 : ¬ (M : Int) < ((dec q.num.natAbs).length : Int) := by omega
        have HQ := hide h1
        clear h1
        by_cases h2 : (dec (q.den : Int).natAbs).length ≤ M
        · have HR := hide (show (!decide (Short M q)) = false by rw [decide_eq_true ⟨HQ.out, by rw [Int.natAbs_natCast] at h2; exact h2⟩]; rfl)
          have hI2 : ¬ (M : Int) < ((dec (q.den : Int).natAbs).length : Int) := by omega
          clear h2
          go_wp2_with fail
          refine (nat_text _ _ _ HP3.out HL2.out).mono ?_
          rintro e w4 ⟨rfl, hb4⟩
          go_wp2_with fail
          go_ret
          exact ⟨ret_bool (short_or M q), ext HW3.out hb4⟩
        · have HR := hide (show (!decide (Short M q)) = true by rw [decide_eq_false (fun h => h2 (by rw [Int.natAbs_natCast]; exact h.2))]; rfl)
          have hI2 : (M : Int) < ((dec (q.den : Int).natAbs).length : Int) := by omega
          clear h2
          go_wp2_with fail
          refine (nat_text _ _ _ HP3.out HL2.out).mono ?_
          rintro e w4 ⟨rfl, hb4⟩
          go_wp2_with fail
          go_ret
          exact ⟨ret_bool (short_or M q), ext HW3.out hb4⟩
      · have HR := hide (show (!decide (Short M q)) = true by rw [decide_eq_false (fun h => h1 h.1)]; rfl)
        have hI1 : (M : Int) < ((dec q.num.natAbs).length : Int) := by omega
        clear h1
        go_wp2_with fail
        go_ret
        exact ⟨ret_bool HR.out, HW3.out⟩
/-- what is told of a quotient -/
def toldOf (q : Rat) : List UInt8 × Int := if Short 50000 q then (fracText q, 0) else ([], 3)
/-- A call gives a text and an error. -/
def RetT (w : World) (r : List UInt8 × Int) (e : Ending) (w' : World) : Prop := e = .returned (.tuple #[str r.1, .int .i64 r.2]) ∧ Below w.heap.size w w'
set_option maxRecDepth 100000 in
theorem told_any (va : Value) (q : Rat) (w : World) (ha : RatIs w va q) (hl : RLen 67108864 q) :
    Calls Tryz.prog 82 #[va] w (RetT w (toldOf q)) := by
  obtain ⟨x1, A1, k1, c1, s1, y1, B1, k1x, c1x, t1, rfl, ha1, ha2⟩ := ha
  have hW := ext_alloc w (.cells #[.int .i64 x1, .slice A1 k1 c1, .bool s1, .int .i64 y1, .slice B1 k1x c1x, .bool t1] 71)
  have HR := hide (show RatIs _ _ q from ⟨_, _, _, _, _, _, _, _, _, _, rfl, ha1.below hW, ha2.below hW⟩)
  have HW := hide hW
  have HL := hide hl
  have kB := Blk.new w 71 #[.int .i64 x1, .slice A1 k1 c1, .bool s1, .int .i64 y1, .slice B1 k1x c1x, .bool t1]
  have HK := hide kB
  clear ha1 ha2 hl hW kB
  have hlg := fun v w h hl => long_any v q 50000 w h hl (by omega) (by omega)
  by_cases hs : Short 50000 q
  · have e1 : (!decide (Short 50000 q)) = false := by rw [decide_eq_true hs]; rfl
    have e2 : toldOf q = (fracText q, 0) := by unfold toldOf; rw [if_pos hs]
    rw [e1] at hlg
    rw [e2]
    clear e1 e2 hs
    go_enter Tryz.func82, Tryz.ntmps82
    go_wp2_with fail
    refine (hlg _ _ HR.out HL.out).mono ?_
    rintro e w1 ⟨rfl, hb1⟩
    have kB1 := HK.out.below hb1 HK.out.lt
    have b0 := kB1.cell 0
    have b1 := kB1.cell 1
    have b2 := kB1.cell 2
    have b3 := kB1.cell 3
    have b4 := kB1.cell 4
    have b5 := kB1.cell 5
    simp at b0 b1 b2 b3 b4 b5
    have HB1 := hide hb1
    clear hb1 kB1
    go_wp2_with fail
    refine (frac_any _ q w1 (HR.out.below HB1.out) HL.out).mono ?_
    rintro e w2 ⟨rfl, hb2⟩
    have HB2 := hide hb2
    clear hb2
    go_wp2_with fail
    go_ret2
    exact ⟨rfl, ext (ext HW.out HB1.out) HB2.out⟩
  · have e1 : (!decide (Short 50000 q)) = true := by rw [decide_eq_false hs]; rfl
    have e2 : toldOf q = ([], 3) := by unfold toldOf; rw [if_neg hs]
    rw [e1] at hlg
    rw [e2]
    clear e1 e2 hs
    go_enter Tryz.func82, Tryz.ntmps82
    go_wp2_with fail
    refine (hlg _ _ HR.out HL.out).mono ?_
    rintro e w1 ⟨rfl, hb1⟩
    have HB1 := hide hb1
    clear hb1
    go_wp2_with fail
    go_ret2
    exact ⟨rfl, ext HW.out HB1.out⟩
end Go.Proofs.YtdecgcdkaaiglaaGreat
namespace Go.Proofs.YtdecgcdkaaiglaaGreat
open Go.RowKit Go.Deep
attribute [local go_sem ↓] Go.wp_at_zero Go.wp_at_succ
theorem hid_num {w w' : World} {v : Value} {z : Int} (hb : Below w.heap.size w w') (h : Hid (NumIs w v z)) : Hid (NumIs w' v z) := h.out.below hb
theorem hid_num_rat {w : World} {g : Nat} {v : Value} {z x y : Int} {A B : Option Addr} {k c k' c' : Nat} {s t : Bool} (hr : Hid (ResIs w g)) (h : Hid (NumIs w v z)) : Hid (NumIs (World.rat w g x A k c s y B k' c' t) v z) := by
  obtain ⟨x, A, k, c, s, y, B, k', c', t, hr⟩ := hr.out
  exact rat_stored h.out hr
/-- A value of a quotient's form. -/
def AggR (v : Value) : Prop := ∃ (x : Int) (A : Option Addr) (k c : Nat) (s : Bool) (y : Int) (B : Option Addr) (k' c' : Nat) (t : Bool), v = .agg #[.int .i64 x, .slice A k c, .bool s, .int .i64 y, .slice B k' c', .bool t]
/-- A call gives the number of a text, and whether it is one. -/
def RetRat (w : World) (l : List UInt8) (e : Ending) (w' : World) : Prop :=
  ∃ v b, e = .returned (.tuple #[v, .bool b]) ∧ AggR v ∧ b = (readFrac l).isSome ∧ (∀ q, readFrac l = some q → RatIs w' v q) ∧ Below w.heap.size w w'
theorem RetRat.no {w w' : World} {l : List UInt8} {v : Value} (h : readFrac l = none) (hv : AggR v) (hb : Below w.heap.size w w') : RetRat w l (.returned (.tuple #[v, .bool false])) w' :=
  ⟨v, false, rfl, hv, by rw [h]; rfl, fun q hq => (by rw [h] at hq; cases hq), hb⟩
theorem RetRat.yes {w w' : World} {l : List UInt8} {v : Value} {q : Rat} (h : readFrac l = some q) (hv : RatIs w' v q) (hb : Below w.heap.size w w') : RetRat w l (.returned (.tuple #[v, .bool true])) w' := by
  refine ⟨v, true, rfl, ?_, (by rw [h]; rfl), fun q' hq => ?_, hb⟩
  · obtain ⟨x, A, k, c, s, y, B, k', c', t, rfl, _, _⟩ := hv
    exact ⟨x, A, k, c, s, y, B, k', c', t, rfl⟩
  · rw [h] at hq; injection hq with hq; rw [← hq]; exact hv
theorem RetRat.maybe {w w' : World} {l : List UInt8} {v : Value} {q : Rat} {d : Nat} (h : readFrac l = if q.den = d then some q else none) (hv : RatIs w' v q) (hb : Below w.heap.size w w') :
    RetRat w l (.returned (.tuple #[v, .bool (cmpOf (q.den : Int) (signed false d) == 0)])) w' := by
  have e : (cmpOf (q.den : Int) (signed false d) == 0) = decide (q.den = d) := by
    unfold cmpOf signed
    simp only [Bool.false_eq_true, if_false]
    rcases Nat.lt_trichotomy q.den d with h1 | h1 | h1
    · rw [if_pos (by omega), decide_eq_false (by omega)]; rfl
    · rw [if_neg (by omega), if_neg (by omega), decide_eq_true h1]; rfl
    · rw [if_neg (by omega), if_pos (by omega), decide_eq_false (by omega)]; rfl
  rw [e]
  by_cases hd : q.den = d
  · rw [decide_eq_true hd]
    rw [if_pos hd] at h
    exact RetRat.yes h hv hb
  · rw [decide_eq_false hd]
    rw [if_neg hd] at h
    obtain ⟨x, A, k, c, s, y, B, k', c', t, rfl, _, _⟩ := hv
    exact RetRat.no h ⟨x, A, k, c, s, y, B, k', c', t, rfl⟩ hb
theorem toList_one (a : ByteArray) (c : UInt8) : (a.toList == [c]) = decide (bts a = [c]) := by
  rw [Lib.toList_data]
  unfold bts
  rw [Bool.eq_iff_iff, beq_iff_eq, decide_eq_true_iff]
theorem num_one (w : World) : NumIs w (.agg #[.int .i64 1, .slice none 0 0, .bool false]) 1 := .inl ⟨1, false, rfl, by omega, by omega, rfl⟩
theorem signed_ratOf (s : Bool) (n d : Nat) : Rat.divInt (signed s n) (signed false d) = ratOf s n d := by
  unfold ratOf signed
  cases s <;> simp
theorem signed_len {s : Bool} {n M : Nat} (h : len 4294967296 n ≤ M) : len 4294967296 (signed s n).natAbs ≤ M := by
  unfold signed
  cases s <;> simpa using h
set_option maxRecDepth 100000 in
set_option maxHeartbeats 8000000 in
theorem rational_any (s : ByteArray) (w : World) (hs : s.size ≤ 1073741824) :
    Calls Tryz.prog 72 #[.string s] w (RetRat w (bts s)) := by
  have hcp := fun w => str_cutprefix s w hs
  have kR := Blk.new w 71 #[.int .i64 0, .slice none 0 0, .bool false, .int .i64 0, .slice none 0 0, .bool false]
  have hWR := ext_alloc w (.cells #[.int .i64 0, .slice none 0 0, .bool false, .int .i64 0, .slice none 0 0, .bool false] 71)
  go_enter Tryz.func72, Tryz.ntmps72
  go_wp2_with fail
  refine (hcp _).mono ?_
  rintro e w1 ⟨u, rfl, hu, rfl⟩
  have hus : u.size ≤ 1073741824 := by
    rw [← bts_length, hu]
    unfold unsigned
    have := bts_length s
    split
    · rw [List.length_tail]; omega
    · omega
  have hct := fun w => str_cut u 47 w hus
  obtain ⟨neg, hneg⟩ : ∃ neg, neg = signOf (bts s) := ⟨_, rfl⟩
  rw [← hneg]
  have HU := hide hu
  have HN := hide hneg
  clear hcp hu hneg
  go_wp2_with fail
  refine (hct _).mono ?_
  rintro e w1 ⟨a, b, rfl, ha, hb, n1, rfl⟩
  rw [HU.out] at ha hb ⊢
  obtain ⟨is_, his⟩ : ∃ is_, is_ = has 47 (unsigned (bts s)) := ⟨_, rfl⟩
  rw [← his] at hb ⊢
  have has1 : a.size ≤ 1073741824 := by
    have h1 : (ahead 47 (unsigned (bts s))).length ≤ (unsigned (bts s)).length := (List.takeWhile_sublist _).length_le
    rw [← ha, ← HU.out, bts_length, bts_length] at h1
    omega
  have hbs1 : b.size ≤ 1073741824 := by
    rw [← bts_length, hb]
    split
    · have h1 : (behind 47 (unsigned (bts s))).length ≤ (unsigned (bts s)).length := by
        unfold behind
        rw [List.length_tail]
        have := (List.dropWhile_sublist (fun x => x != (47 : UInt8)) (l := unsigned (bts s))).length_le
        omega
      rw [← HU.out, bts_length] at h1
      rw [HU.out] at h1
      omega
    · simp
  have hpa := fun w => plain_any a w has1
  have hpb := fun w => plain_any b w hbs1
  have za := toList_one a 48
  have zb := toList_one b 48
  have zc := toList_one b 49
  rw [ha] at hpa za
  have HA := hide ha
  have HB := hide hb
  have HI := hide his
  have HS := hide hs
  have kR1 := kR.drewN n1
  have hWR1 := below_drewN hWR n1
  clear hct ha hb his hus has1 hbs1 hs kR hWR
  generalize (w.alloc (.cells #[.int .i64 0, .slice none 0 0, .bool false, .int .i64 0, .slice none 0 0, .bool false] 71)).drewN n1 = w1 at kR1 hWR1 ⊢
  have lR := kR1.lt
  have r0 := kR1.cell 0
  have r1 := kR1.cell 1
  have r2 := kR1.cell 2
  have r3 := kR1.cell 3
  have r4 := kR1.cell 4
  have r5 := kR1.cell 5
  have f0 := kR1.frozen 0
  have f1 := kR1.frozen 1
  have f2 := kR1.frozen 2
  have f3 := kR1.frozen 3
  have f4 := kR1.frozen 4
  have f5 := kR1.frozen 5
  simp at r0 r1 r2 r3 r4 r5
  have HKR := hide kR1
  have HWR := hide hWR1
  clear kR1 hWR1
  cases hpl : plainDigs (ahead 47 (unsigned (bts s))) with
  | false =>
    have HP := hide (read_no1 hpl)
    rw [hpl] at hpa
    clear hpl za zb zc hpb
    go_wp2_with fail
    refine (hpa _).mono ?_
    rintro e w2 ⟨rfl, rfl⟩
    go_wp2_with fail
    have kR2 := rat_blk (x := 0) (A := none) (k := 0) (c := 0) (s := false) (y := 0) (B := none) (k' := 0) (c' := 0) (t := false) HKR.out
    have e0 := kR2.cell 0
    have e1 := kR2.cell 1
    have e2 := kR2.cell 2
    have e3 := kR2.cell 3
    have e4 := kR2.cell 4
    have e5 := kR2.cell 5
    simp only [World.rat] at e0 e1 e2 e3 e4 e5
    simp at e0 e1 e2 e3 e4 e5
    refine bodyPost_ret (v := .tuple #[.agg #[.int .i64 0, .slice none 0 0, .bool false, .int .i64 0, .slice none 0 0, .bool false], .bool false]) (by simp [results, Tryz.results72, go_sem, e0, e1, e2, e3, e4, e5]) rfl ?_
    exact RetRat.no HP.out ⟨_, _, _, _, _, _, _, _, _, _, rfl⟩ (rat_below (x := 0) (A := none) (k := 0) (c := 0) (s := false) (y := 0) (B := none) (k' := 0) (c' := 0) (t := false) HWR.out (Nat.le_refl _))
  | true =>
    have HPL := hide hpl
    rw [hpl] at hpa
    clear hpl
    go_wp2_with fail
    refine (hpa _).mono ?_
    rintro e w2 ⟨rfl, rfl⟩
    clear hpa
    cases neg with
    | false =>
      cases za1 : (a.toList == [48]) with
      | true =>
        cases is_ with
        | false =>
          have HP := hide (read_whole HPL.out (fun h => by rw [← HN.out] at h; cases h) HI.out.symm)
          have HC := hide (plain_all HPL.out)
          rw [← HN.out] at HP
          have HAS := hide (show a.size ≤ 50000 by rw [← bts_length, HA.out]; exact HC.out.2)
          clear za zb zc hpb
          go_wp2_with fail
          refine (natOf_any a _ (by rw [HA.out]; exact HC.out.1) HAS.out).mono ?_
          rintro e w2 ⟨v, rfl, hv, hb2⟩
          rw [HA.out] at hv
          have HV := hide hv
          have HKR2 := hide (HKR.out.below hb2 lR)
          have HWR2 := hide (ext HWR.out hb2)
          clear hv hb2 r0 r1 r2 r3 r4 r5 f0 f1 f2 f3 f4 f5
          go_wp2_with fail
          refine (made_any false v _ w2 HV.out).mono ?_
          rintro e w3 ⟨v3, rfl, hv3, hb3⟩
          obtain ⟨x', A', k', c', ng', rfl, _, _, _⟩ := hv3.form
          have hb4 := ext_alloc w3 (.cells #[.int .i64 x', .slice A' k' c', .bool ng'] 69)
          have HV3 := hide (hv3.below hb4)
          have kR3 := (HKR2.out.below hb3 HKR2.out.lt).below hb4 (HKR2.out.below hb3 HKR2.out.lt).lt
          have HWR3 := hide (ext (ext HWR2.out hb3) hb4)
          have HKR3 := hide kR3
          have r0 := kR3.cell 0
          have r1 := kR3.cell 1
          have r2 := kR3.cell 2
          have r3 := kR3.cell 3
          have r4 := kR3.cell 4
          have r5 := kR3.cell 5
          have f0 := kR3.frozen 0
          have f1 := kR3.frozen 1
          have f2 := kR3.frozen 2
          have f3 := kR3.frozen 3
          have f4 := kR3.frozen 4
          have f5 := kR3.frozen 5
          simp at r0 r1 r2 r3 r4 r5
          have kX := Blk.new w3 69 #[.int .i64 x', .slice A' k' c', .bool ng']
          have g0 := kX.cell 0
          have g1 := kX.cell 1
          have g2 := kX.cell 2
          simp at g0 g1 g2
          clear hb3 hv3 hb4 kR3 kX lR
          go_wp2_with fail
          have kR4 := rat_blk (x := x') (A := A') (k := k') (c := c') (s := ng') (y := 1) (B := none) (k' := 0) (c' := 0) (t := false) HKR3.out
          have e0 := kR4.cell 0
          have e1 := kR4.cell 1
          have e2 := kR4.cell 2
          have e3 := kR4.cell 3
          have e4 := kR4.cell 4
          have e5 := kR4.cell 5
          simp only [World.rat] at e0 e1 e2 e3 e4 e5
          simp at e0 e1 e2 e3 e4 e5
          refine bodyPost_ret (v := .tuple #[.agg #[.int .i64 x', .slice A' k' c', .bool ng', .int .i64 1, .slice none 0 0, .bool false], .bool true]) (by simp [results, Tryz.results72, go_sem, e0, e1, e2, e3, e4, e5]) rfl ?_
          refine RetRat.yes HP.out ⟨_, _, _, _, _, _, _, _, _, _, rfl, ?_, ?_⟩ (rat_below HWR3.out (Nat.le_refl _))
          · rw [(ratOf_one _ _).1]
            exact rat_stored HV3.out HKR3.out
          · rw [(ratOf_one _ _).2]
            exact num_one _
        | true =>
          cases hpb2 : plainDigs (bts b) with
          | false =>
            have HP := hide (read_no3 HI.out.symm (.inl (by have := HB.out; rw [if_pos rfl] at this; rw [← this]; exact hpb2)))
            rw [hpb2] at hpb
            clear hpb2 za zb zc
            go_wp2_with fail
            refine (hpb _).mono ?_
            rintro e w2 ⟨rfl, rfl⟩
            go_wp2_with fail
            have kR2 := rat_blk (x := 0) (A := none) (k := 0) (c := 0) (s := false) (y := 0) (B := none) (k' := 0) (c' := 0) (t := false) HKR.out
            have e0 := kR2.cell 0
            have e1 := kR2.cell 1
            have e2 := kR2.cell 2
            have e3 := kR2.cell 3
            have e4 := kR2.cell 4
            have e5 := kR2.cell 5
            simp only [World.rat] at e0 e1 e2 e3 e4 e5
            simp at e0 e1 e2 e3 e4 e5
            refine bodyPost_ret (v := .tuple #[.agg #[.int .i64 0, .slice none 0 0, .bool false, .int .i64 0, .slice none 0 0, .bool false], .bool false]) (by simp [results, Tryz.results72, go_sem, e0, e1, e2, e3, e4, e5]) rfl ?_
            exact RetRat.no HP.out ⟨_, _, _, _, _, _, _, _, _, _, rfl⟩ (rat_below (x := 0) (A := none) (k := 0) (c := 0) (s := false) (y := 0) (B := none) (k' := 0) (c' := 0) (t := false) HWR.out (Nat.le_refl _))
          | true =>
            have HPB := hide hpb2
            rw [hpb2] at hpb
            clear hpb2
            cases zb1 : (b.toList == [48]) with
            | true =>
              have HP := hide (read_no3 HI.out.symm (.inr (.inl (by have := HB.out; rw [if_pos rfl] at this; rw [← this]; exact of_decide_eq_true (zb.symm.trans zb1)))))
              clear za zb zc
              go_wp2_with fail
              refine (hpb _).mono ?_
              rintro e w2 ⟨rfl, rfl⟩
              go_wp2_with fail
              have kR2 := rat_blk (x := 0) (A := none) (k := 0) (c := 0) (s := false) (y := 0) (B := none) (k' := 0) (c' := 0) (t := false) HKR.out
              have e0 := kR2.cell 0
              have e1 := kR2.cell 1
              have e2 := kR2.cell 2
              have e3 := kR2.cell 3
              have e4 := kR2.cell 4
              have e5 := kR2.cell 5
              simp only [World.rat] at e0 e1 e2 e3 e4 e5
              simp at e0 e1 e2 e3 e4 e5
              refine bodyPost_ret (v := .tuple #[.agg #[.int .i64 0, .slice none 0 0, .bool false, .int .i64 0, .slice none 0 0, .bool false], .bool false]) (by simp [results, Tryz.results72, go_sem, e0, e1, e2, e3, e4, e5]) rfl ?_
              exact RetRat.no HP.out ⟨_, _, _, _, _, _, _, _, _, _, rfl⟩ (rat_below (x := 0) (A := none) (k := 0) (c := 0) (s := false) (y := 0) (B := none) (k' := 0) (c' := 0) (t := false) HWR.out (Nat.le_refl _))
            | false =>
              cases zc1 : (b.toList == [49]) with
              | true =>
                have HP := hide (read_no3 HI.out.symm (.inr (.inr (.inl (by have := HB.out; rw [if_pos rfl] at this; rw [← this]; exact of_decide_eq_true (zc.symm.trans zc1))))))
                clear za zb zc
                go_wp2_with fail
                refine (hpb _).mono ?_
                rintro e w2 ⟨rfl, rfl⟩
                go_wp2_with fail
                have kR2 := rat_blk (x := 0) (A := none) (k := 0) (c := 0) (s := false) (y := 0) (B := none) (k' := 0) (c' := 0) (t := false) HKR.out
                have e0 := kR2.cell 0
                have e1 := kR2.cell 1
                have e2 := kR2.cell 2
                have e3 := kR2.cell 3
                have e4 := kR2.cell 4
                have e5 := kR2.cell 5
                simp only [World.rat] at e0 e1 e2 e3 e4 e5
                simp at e0 e1 e2 e3 e4 e5
                refine bodyPost_ret (v := .tuple #[.agg #[.int .i64 0, .slice none 0 0, .bool false, .int .i64 0, .slice none 0 0, .bool false], .bool false]) (by simp [results, Tryz.results72, go_sem, e0, e1, e2, e3, e4, e5]) rfl ?_
                exact RetRat.no HP.out ⟨_, _, _, _, _, _, _, _, _, _, rfl⟩ (rat_below (x := 0) (A := none) (k := 0) (c := 0) (s := false) (y := 0) (B := none) (k' := 0) (c' := 0) (t := false) HWR.out (Nat.le_refl _))
              | false =>
                have HP := hide (read_no3 HI.out.symm (.inr (.inr (.inr (of_decide_eq_true (by rw [← za]; exact za1))))))
                clear za zb zc
                go_wp2_with fail
                refine (hpb _).mono ?_
                rintro e w2 ⟨rfl, rfl⟩
                go_wp2_with fail
                have kR2 := rat_blk (x := 0) (A := none) (k := 0) (c := 0) (s := false) (y := 0) (B := none) (k' := 0) (c' := 0) (t := false) HKR.out
                have e0 := kR2.cell 0
                have e1 := kR2.cell 1
                have e2 := kR2.cell 2
                have e3 := kR2.cell 3
                have e4 := kR2.cell 4
                have e5 := kR2.cell 5
                simp only [World.rat] at e0 e1 e2 e3 e4 e5
                simp at e0 e1 e2 e3 e4 e5
                refine bodyPost_ret (v := .tuple #[.agg #[.int .i64 0, .slice none 0 0, .bool false, .int .i64 0, .slice none 0 0, .bool false], .bool false]) (by simp [results, Tryz.results72, go_sem, e0, e1, e2, e3, e4, e5]) rfl ?_
                exact RetRat.no HP.out ⟨_, _, _, _, _, _, _, _, _, _, rfl⟩ (rat_below (x := 0) (A := none) (k := 0) (c := 0) (s := false) (y := 0) (B := none) (k' := 0) (c' := 0) (t := false) HWR.out (Nat.le_refl _))
      | false =>
        cases is_ with
        | false =>
          have HP := hide (read_whole HPL.out (fun h => by rw [← HN.out] at h; cases h) HI.out.symm)
          have HC := hide (plain_all HPL.out)
          rw [← HN.out] at HP
          have HAS := hide (show a.size ≤ 50000 by rw [← bts_length, HA.out]; exact HC.out.2)
          clear za zb zc hpb
          go_wp2_with fail
          refine (natOf_any a _ (by rw [HA.out]; exact HC.out.1) HAS.out).mono ?_
          rintro e w2 ⟨v, rfl, hv, hb2⟩
          rw [HA.out] at hv
          have HV := hide hv
          have HKR2 := hide (HKR.out.below hb2 lR)
          have HWR2 := hide (ext HWR.out hb2)
          clear hv hb2 r0 r1 r2 r3 r4 r5 f0 f1 f2 f3 f4 f5
          go_wp2_with fail
          refine (made_any false v _ w2 HV.out).mono ?_
          rintro e w3 ⟨v3, rfl, hv3, hb3⟩
          obtain ⟨x', A', k', c', ng', rfl, _, _, _⟩ := hv3.form
          have hb4 := ext_alloc w3 (.cells #[.int .i64 x', .slice A' k' c', .bool ng'] 69)
          have HV3 := hide (hv3.below hb4)
          have kR3 := (HKR2.out.below hb3 HKR2.out.lt).below hb4 (HKR2.out.below hb3 HKR2.out.lt).lt
          have HWR3 := hide (ext (ext HWR2.out hb3) hb4)
          have HKR3 := hide kR3
          have r0 := kR3.cell 0
          have r1 := kR3.cell 1
          have r2 := kR3.cell 2
          have r3 := kR3.cell 3
          have r4 := kR3.cell 4
          have r5 := kR3.cell 5
          have f0 := kR3.frozen 0
          have f1 := kR3.frozen 1
          have f2 := kR3.frozen 2
          have f3 := kR3.frozen 3
          have f4 := kR3.frozen 4
          have f5 := kR3.frozen 5
          simp at r0 r1 r2 r3 r4 r5
          have kX := Blk.new w3 69 #[.int .i64 x', .slice A' k' c', .bool ng']
          have g0 := kX.cell 0
          have g1 := kX.cell 1
          have g2 := kX.cell 2
          simp at g0 g1 g2
          clear hb3 hv3 hb4 kR3 kX lR
          go_wp2_with fail
          have kR4 := rat_blk (x := x') (A := A') (k := k') (c := c') (s := ng') (y := 1) (B := none) (k' := 0) (c' := 0) (t := false) HKR3.out
          have e0 := kR4.cell 0
          have e1 := kR4.cell 1
          have e2 := kR4.cell 2
          have e3 := kR4.cell 3
          have e4 := kR4.cell 4
          have e5 := kR4.cell 5
          simp only [World.rat] at e0 e1 e2 e3 e4 e5
          simp at e0 e1 e2 e3 e4 e5
          refine bodyPost_ret (v := .tuple #[.agg #[.int .i64 x', .slice A' k' c', .bool ng', .int .i64 1, .slice none 0 0, .bool false], .bool true]) (by simp [results, Tryz.results72, go_sem, e0, e1, e2, e3, e4, e5]) rfl ?_
          refine RetRat.yes HP.out ⟨_, _, _, _, _, _, _, _, _, _, rfl, ?_, ?_⟩ (rat_below HWR3.out (Nat.le_refl _))
          · rw [(ratOf_one _ _).1]
            exact rat_stored HV3.out HKR3.out
          · rw [(ratOf_one _ _).2]
            exact num_one _
        | true =>
          cases hpb2 : plainDigs (bts b) with
          | false =>
            have HP := hide (read_no3 HI.out.symm (.inl (by have := HB.out; rw [if_pos rfl] at this; rw [← this]; exact hpb2)))
            rw [hpb2] at hpb
            clear hpb2 za zb zc
            go_wp2_with fail
            refine (hpb _).mono ?_
            rintro e w2 ⟨rfl, rfl⟩
            go_wp2_with fail
            have kR2 := rat_blk (x := 0) (A := none) (k := 0) (c := 0) (s := false) (y := 0) (B := none) (k' := 0) (c' := 0) (t := false) HKR.out
            have e0 := kR2.cell 0
            have e1 := kR2.cell 1
            have e2 := kR2.cell 2
            have e3 := kR2.cell 3
            have e4 := kR2.cell 4
            have e5 := kR2.cell 5
            simp only [World.rat] at e0 e1 e2 e3 e4 e5
            simp at e0 e1 e2 e3 e4 e5
            refine bodyPost_ret (v := .tuple #[.agg #[.int .i64 0, .slice none 0 0, .bool false, .int .i64 0, .slice none 0 0, .bool false], .bool false]) (by simp [results, Tryz.results72, go_sem, e0, e1, e2, e3, e4, e5]) rfl ?_
            exact RetRat.no HP.out ⟨_, _, _, _, _, _, _, _, _, _, rfl⟩ (rat_below (x := 0) (A := none) (k := 0) (c := 0) (s := false) (y := 0) (B := none) (k' := 0) (c' := 0) (t := false) HWR.out (Nat.le_refl _))
          | true =>
            have HPB := hide hpb2
            rw [hpb2] at hpb
            clear hpb2
            cases zb1 : (b.toList == [48]) with
            | true =>
              have HP := hide (read_no3 HI.out.symm (.inr (.inl (by have := HB.out; rw [if_pos rfl] at this; rw [← this]; exact of_decide_eq_true (zb.symm.trans zb1)))))
              clear za zb zc
              go_wp2_with fail
              refine (hpb _).mono ?_
              rintro e w2 ⟨rfl, rfl⟩
              go_wp2_with fail
              have kR2 := rat_blk (x := 0) (A := none) (k := 0) (c := 0) (s := false) (y := 0) (B := none) (k' := 0) (c' := 0) (t := false) HKR.out
              have e0 := kR2.cell 0
              have e1 := kR2.cell 1
              have e2 := kR2.cell 2
              have e3 := kR2.cell 3
              have e4 := kR2.cell 4
              have e5 := kR2.cell 5
              simp only [World.rat] at e0 e1 e2 e3 e4 e5
              simp at e0 e1 e2 e3 e4 e5
              refine bodyPost_ret (v := .tuple #[.agg #[.int .i64 0, .slice none 0 0, .bool false, .int .i64 0, .slice none 0 0, .bool false], .bool false]) (by simp [results, Tryz.results72, go_sem, e0, e1, e2, e3, e4, e5]) rfl ?_
              exact RetRat.no HP.out ⟨_, _, _, _, _, _, _, _, _, _, rfl⟩ (rat_below (x := 0) (A := none) (k := 0) (c := 0) (s := false) (y := 0) (B := none) (k' := 0) (c' := 0) (t := false) HWR.out (Nat.le_refl _))
            | false =>
              cases zc1 : (b.toList == [49]) with
              | true =>
                have HP := hide (read_no3 HI.out.symm (.inr (.inr (.inl (by have := HB.out; rw [if_pos rfl] at this; rw [← this]; exact of_decide_eq_true (zc.symm.trans zc1))))))
                clear za zb zc
                go_wp2_with fail
                refine (hpb _).mono ?_
                rintro e w2 ⟨rfl, rfl⟩
                go_wp2_with fail
                have kR2 := rat_blk (x := 0) (A := none) (k := 0) (c := 0) (s := false) (y := 0) (B := none) (k' := 0) (c' := 0) (t := false) HKR.out
                have e0 := kR2.cell 0
                have e1 := kR2.cell 1
                have e2 := kR2.cell 2
                have e3 := kR2.cell 3
                have e4 := kR2.cell 4
                have e5 := kR2.cell 5
                simp only [World.rat] at e0 e1 e2 e3 e4 e5
                simp at e0 e1 e2 e3 e4 e5
                refine bodyPost_ret (v := .tuple #[.agg #[.int .i64 0, .slice none 0 0, .bool false, .int .i64 0, .slice none 0 0, .bool false], .bool false]) (by simp [results, Tryz.results72, go_sem, e0, e1, e2, e3, e4, e5]) rfl ?_
                exact RetRat.no HP.out ⟨_, _, _, _, _, _, _, _, _, _, rfl⟩ (rat_below (x := 0) (A := none) (k := 0) (c := 0) (s := false) (y := 0) (B := none) (k' := 0) (c' := 0) (t := false) HWR.out (Nat.le_refl _))
              | false =>
                have HBB := hide (show bts b = behind 47 (unsigned (bts s)) by rw [HB.out]; rfl)
                have HD := hide (plain_all HPB.out)
                have HP := hide (read_quot HPL.out (fun h => by rw [← HN.out] at h; cases h) HI.out.symm (by rw [← HBB.out]; exact HPB.out) (fun h => by have := zb.symm.trans zb1; rw [decide_eq_true (HBB.out.trans h)] at this; cases this) (fun h => by have := zc.symm.trans zc1; rw [decide_eq_true (HBB.out.trans h)] at this; cases this))
                have HNZ := hide (plain_ne_zero (l := behind 47 (unsigned (bts s))) (by rw [← HBB.out]; exact HPB.out) (fun h => by have := zb.symm.trans zb1; rw [decide_eq_true (HBB.out.trans h)] at this; cases this))
                have HLD := hide (plain_len (l := behind 47 (unsigned (bts s))) (by rw [← HBB.out]; exact HPB.out))
                have HLN := hide (plain_len HPL.out)
                have HC := hide (plain_all HPL.out)
                rw [← HN.out] at HP
                have HAS := hide (show a.size ≤ 50000 by rw [← bts_length, HA.out]; exact HC.out.2)
                have HBS := hide (show b.size ≤ 50000 by rw [← bts_length]; exact HD.out.2)
                clear za zb zc
                go_wp2_with fail
                refine (hpb _).mono ?_
                rintro e w2 ⟨rfl, rfl⟩
                clear hpb
                obtain ⟨dn, hdn⟩ : ∃ dn, dn = decVal (behind 47 (unsigned (bts s))) := ⟨_, rfl⟩
                obtain ⟨nn, hnn⟩ : ∃ nn, nn = decVal (ahead 47 (unsigned (bts s))) := ⟨_, rfl⟩
                rw [← hdn, ← hnn] at HP
                rw [← hdn] at HNZ HLD
                rw [← hnn] at HLN
                have HDN := hide hdn
                have HNN := hide hnn
                clear hdn hnn
                go_wp2_with fail
                refine (natOf_any a _ (by rw [HA.out]; exact HC.out.1) HAS.out).mono ?_
                rintro e w2 ⟨v, rfl, hv, hb2⟩
                rw [HA.out, ← HNN.out] at hv
                have HV := hide hv
                have HKR2 := hide (HKR.out.below hb2 lR)
                have HWR2 := hide (ext HWR.out hb2)
                clear hv hb2 r0 r1 r2 r3 r4 r5 f0 f1 f2 f3 f4 f5
                go_wp2_with fail
                refine (made_any false v _ w2 HV.out).mono ?_
                rintro e w3 ⟨v3, rfl, hv3, hb3⟩
                obtain ⟨x', A', k', c', ng', rfl, _, _, _⟩ := hv3.form
                have hb4 := ext_alloc w3 (.cells #[.int .i64 x', .slice A' k' c', .bool ng'] 69)
                have HV3 := hide (hv3.below hb4)
                have kR3 := (HKR2.out.below hb3 HKR2.out.lt).below hb4 (HKR2.out.below hb3 HKR2.out.lt).lt
                have HWR3 := hide (ext (ext HWR2.out hb3) hb4)
                have HKR3 := hide kR3
                have kX := Blk.new w3 69 #[.int .i64 x', .slice A' k' c', .bool ng']
                have HKX := hide kX
                have lgx : w.heap.size < w3.heap.size := (HKR2.out.below hb3 HKR2.out.lt).lt
                clear hb3 hv3 hb4 kR3 kX lR
                go_wp2_with fail
                generalize hgx : w3.heap.size = gx at HKX lgx ⊢
                generalize w3.alloc (.cells #[.int .i64 x', .slice A' k' c', .bool ng'] 69) = W3 at HV3 HKR3 HWR3 HKX ⊢
                clear hgx
                refine (natOf_any b _ HD.out.1 HBS.out).mono ?_
                rintro e w4 ⟨v4, rfl, hv4, hb4⟩
                rw [HBB.out, ← HDN.out] at hv4
                have HV4 := hide hv4
                have HV3a := hide (HV3.out.below hb4)
                have HKR4 := hide (HKR3.out.below hb4 HKR3.out.lt)
                have HKX4 := hide (HKX.out.below hb4 HKX.out.lt)
                have HWR4 := hide (ext HWR3.out hb4)
                clear hv4 hb4
                go_wp2_with fail
                refine (made_any false v4 _ w4 HV4.out).mono ?_
                rintro e w5 ⟨v5, rfl, hv5, hb5⟩
                obtain ⟨y', B', m', d', nh', rfl, _, _, _⟩ := hv5.form
                have hb6 := ext_alloc w5 (.cells #[.int .i64 y', .slice B' m' d', .bool nh'] 69)
                have hbb := ext hb5 hb6
                have HV5 := hide (hv5.below hb6)
                have HV3b := hide (HV3a.out.below hbb)
                have HKR5 := hide (HKR4.out.below hbb HKR4.out.lt)
                have HKX5 := hide (HKX4.out.below hbb HKX4.out.lt)
                have HWR5 := hide (ext HWR4.out hbb)
                have HKY5 := hide (Blk.new w5 69 #[.int .i64 y', .slice B' m' d', .bool nh'])
                have lgy : w.heap.size < w5.heap.size := (HKR4.out.below hb5 HKR4.out.lt).lt
                have x0 := HKX5.out.cell 0
                have x1 := HKX5.out.cell 1
                have x2 := HKX5.out.cell 2
                simp at x0 x1 x2
                clear hb5 hb6 hbb hv5
                go_wp2_with fail
                generalize hgy : w5.heap.size = gy at HKY5 lgy ⊢
                generalize w5.alloc (.cells #[.int .i64 y', .slice B' m' d', .bool nh'] 69) = W5 at HV5 HV3b HKR5 HKX5 HWR5 HKY5 x0 x1 x2 ⊢
                clear hgy
                refine (over_any _ _ (signed false nn) (signed false dn) _ HV3b.out HV5.out (by have := HNZ.out; unfold signed; simp; omega) (Nat.le_trans (signed_len HLN.out) (by omega)) (Nat.le_trans (signed_len HLD.out) (by omega))).mono ?_
                rintro e w6 ⟨v6, rfl, hq, hb7⟩
                rw [signed_ratOf] at hq
                obtain ⟨q, hqq⟩ : ∃ q, q = ratOf false nn dn := ⟨_, rfl⟩
                rw [← hqq] at hq HP
                obtain ⟨x5, A5, k5, c5, n5, x6, A6, k6, c6, n6, rfl, hq1, hq2⟩ := hq
                have hb8 := ext_alloc w6 (.cells #[.int .i64 x5, .slice A5 k5 c5, .bool n5, .int .i64 x6, .slice A6 k6 c6, .bool n6] 71)
                have hbb := ext hb7 hb8
                have HQ1 := hide (hq1.below hb8)
                have HQ2 := hide (hq2.below hb8)
                have HV7 := hide (HV5.out.below hbb)
                have HKR7 := hide (show ResIs _ w.heap.size from ⟨_, _, _, _, _, _, _, _, _, _, HKR5.out.below hbb HKR5.out.lt⟩)
                have HKY7 := hide (HKY5.out.below hbb HKY5.out.lt)
                have HWR7 := hide (ext HWR5.out hbb)
                have HKQ := hide (Blk.new w6 71 #[.int .i64 x5, .slice A5 k5 c5, .bool n5, .int .i64 x6, .slice A6 k6 c6, .bool n6])
                have lgq : w.heap.size < w6.heap.size := (HKR5.out.below hb7 HKR5.out.lt).lt
                have HLQ := hide (show len 4294967296 (q.den : Int).natAbs ≤ 67108864 by
                  rw [hqq, ← signed_ratOf]
                  have h9 := over_parts (zn := signed false nn) (zd := signed false dn) (by have := HNZ.out; unfold signed; simp; omega) (Nat.le_trans (signed_len HLD.out) (by omega))
                  rw [h9.2.1]
                  refine Nat.le_trans (len_mono (by omega) (Int.natAbs_tdiv_le_natAbs _ _)) (Nat.le_trans (signed_len HLD.out) (by omega)))
                clear hb7 hb8 hbb hq1 hq2 x0 x1 x2 HKX HKX4 HKX5 HKR3 HKR4 HKR5 HKY5 HV3 HV3a HV3b HV5 HWR HWR2 HWR3 HWR4 HWR5 HKR HKR2 hqq
                go_wp2_with fail
                generalize hgq : w6.heap.size = gq at HKQ lgq ⊢
                generalize w6.alloc (.cells #[.int .i64 x5, .slice A5 k5 c5, .bool n5, .int .i64 x6, .slice A6 k6 c6, .bool n6] 71) = W7 at HQ1 HQ2 HV7 HKR7 HKY7 HWR7 HKQ ⊢
                clear hgq
                have hlq := HKQ.out.lt
                have hly := HKY7.out.lt
                have q0 := HKQ.out.cell 0
                have q1 := HKQ.out.cell 1
                have q2 := HKQ.out.cell 2
                have q3 := HKQ.out.cell 3
                have q4 := HKQ.out.cell 4
                have q5 := HKQ.out.cell 5
                have y0 := HKY7.out.cell 0
                have y1 := HKY7.out.cell 1
                have y2 := HKY7.out.cell 2
                simp at q0 q1 q2 q3 q4 q5 y0 y1 y2
                have HRES := hide (show ResIs W7.drew w.heap.size from HKR7.out)
                have HWX := hide (show Below w.heap.size w W7.drew from below_drewN HWR7.out 1)
                have HY1 := hide (show NumIs W7.drew _ q.num from HQ1.out.below (ext_drewN W7 1))
                have HY2 := hide (show NumIs W7.drew _ (q.den : Int) from HQ2.out.below (ext_drewN W7 1))
                have HY3 := hide (show NumIs W7.drew _ (signed false dn) from HV7.out.below (ext_drewN W7 1))
                clear HQ1 HQ2 HV7
                go_region_held3 (fun w' => w'.cell? ⟨gq, 0, none⟩ = some (.int .i64 x5) ∧ w'.cell? ⟨gq, 1, none⟩ = some (.slice A5 k5 c5) ∧ w'.cell? ⟨gq, 2, none⟩ = some (.bool n5) ∧ w'.cell? ⟨gq, 3, none⟩ = some (.int .i64 x6) ∧ w'.cell? ⟨gq, 4, none⟩ = some (.slice A6 k6 c6) ∧ w'.cell? ⟨gq, 5, none⟩ = some (.bool n6) ∧
                    w'.cell? ⟨gy, 0, none⟩ = some (.int .i64 y') ∧ w'.cell? ⟨gy, 1, none⟩ = some (.slice B' m' d') ∧ w'.cell? ⟨gy, 2, none⟩ = some (.bool nh') ∧ gq < w'.heap.size ∧ gy < w'.heap.size ∧ Hid (ResIs w' w.heap.size) ∧ Hid (Below w.heap.size w w') ∧ Hid (NumIs w' (.agg #[.int .i64 x5, .slice A5 k5 c5, .bool n5]) q.num) ∧ Hid (NumIs w' (.agg #[.int .i64 x6, .slice A6 k6 c6, .bool n6]) (q.den : Int)) ∧ Hid (NumIs w' (.agg #[.int .i64 y', .slice B' m' d', .bool nh']) (signed false dn)))
                  (first
                    | with_reducible exact ⟨by go_keep, by go_keep, by go_keep, by go_keep, by go_keep, by go_keep, by go_keep, by go_keep, by go_keep, by first | (simp; done) | (simp; assumption), by first | (simp; done) | (simp; assumption), HRES, HWX, HY1, HY2, HY3⟩
                    | (go_split_ands; with_reducible exact ⟨rat_cell (by omega) (by assumption), rat_cell (by omega) (by assumption), rat_cell (by omega) (by assumption), rat_cell (by omega) (by assumption), rat_cell (by omega) (by assumption), rat_cell (by omega) (by assumption), rat_cell (by omega) (by assumption), rat_cell (by omega) (by assumption), rat_cell (by omega) (by assumption), rat_size (by assumption), rat_size (by assumption), hid_res_rat (by assumption), hid_below_rat (by omega) (by assumption), hid_num_rat (by assumption) (by assumption), hid_num_rat (by assumption) (by assumption), hid_num_rat (by assumption) (by assumption)⟩)
                    | (go_split_ands; with_reducible exact ⟨cell_keep (by assumption) (by assumption) (by assumption), cell_keep (by assumption) (by assumption) (by assumption), cell_keep (by assumption) (by assumption) (by assumption), cell_keep (by assumption) (by assumption) (by assumption), cell_keep (by assumption) (by assumption) (by assumption), cell_keep (by assumption) (by assumption) (by assumption), cell_keep (by assumption) (by assumption) (by assumption), cell_keep (by assumption) (by assumption) (by assumption), cell_keep (by assumption) (by assumption) (by assumption), size_keep (by assumption) (by assumption), size_keep (by assumption) (by assumption), hid_res (by assumption) (by assumption), hid_below (by assumption) (by assumption), hid_num (by assumption) (by assumption), hid_num (by assumption) (by assumption), hid_num (by assumption) (by assumption)⟩)
                    | go_keep)
                  (first
                    | (go_at_call 111; refine (cmp_any _ _ (q.den : Int) (signed false dn) _ (unhide (by go_split_ands; assumption)) (unhide (by go_split_ands; assumption)) HLQ.out (Nat.le_trans (signed_len HLD.out) (by omega))).mono ?_; rintro e wo ⟨rfl, hbo⟩; obtain ⟨xr, Ar, kr, cr, sr, yr, Br, krx, crx, tr, kR⟩ := (hid_res (g := w.heap.size) hbo (by go_split_ands; assumption)).out; have r0 := kR.cell 0; have r1 := kR.cell 1; have r2 := kR.cell 2; have r3 := kR.cell 3; have r4 := kR.cell 4; have r5 := kR.cell 5; have f0 := kR.frozen 0; have f1 := kR.frozen 1; have f2 := kR.frozen 2; have f3 := kR.frozen 3; have f4 := kR.frozen 4; have f5 := kR.frozen 5; simp at r0 r1 r2 r3 r4 r5; have HKR := hide kR; clear kR))
                all_goals
                  go_split_ands
                  have kR2 := rat_blk (x := x5) (A := A5) (k := k5) (c := c5) (s := n5) (y := x6) (B := A6) (k' := k6) (c' := c6) (t := n6) HKR.out
                  have hR1 := unhide (by assumption : Hid (NumIs (World.rat wo w.heap.size x5 A5 k5 c5 n5 x6 A6 k6 c6 n6) (.agg #[.int .i64 x5, .slice A5 k5 c5, .bool n5]) q.num))
                  have hR2 := unhide (by assumption : Hid (NumIs (World.rat wo w.heap.size x5 A5 k5 c5 n5 x6 A6 k6 c6 n6) (.agg #[.int .i64 x6, .slice A6 k6 c6, .bool n6]) (q.den : Int)))
                  have hRW := unhide (by assumption : Hid (Below w.heap.size w (World.rat wo w.heap.size x5 A5 k5 c5 n5 x6 A6 k6 c6 n6)))
                  have e0 := kR2.cell 0
                  have e1 := kR2.cell 1
                  have e2 := kR2.cell 2
                  have e3 := kR2.cell 3
                  have e4 := kR2.cell 4
                  have e5 := kR2.cell 5
                  simp only [World.rat] at e0 e1 e2 e3 e4 e5
                  simp at e0 e1 e2 e3 e4 e5
                  go_wp2
                  refine bodyPost_ret (v := .tuple #[.agg #[.int .i64 x5, .slice A5 k5 c5, .bool n5, .int .i64 x6, .slice A6 k6 c6, .bool n6], .bool (cmpOf (q.den : Int) (signed false dn) == 0)]) (by simp [results, Tryz.results72, go_sem, e0, e1, e2, e3, e4, e5]) rfl ?_
                  exact RetRat.maybe HP.out ⟨_, _, _, _, _, _, _, _, _, _, rfl, hR1, hR2⟩ hRW
    | true =>
      cases za1 : (a.toList == [48]) with
      | true =>
        have HP := hide (read_no2 HN.out.symm (of_decide_eq_true (by rw [← za]; exact za1)))
        clear za zb zc hpb
        go_wp2_with fail
        have kR2 := rat_blk (x := 0) (A := none) (k := 0) (c := 0) (s := false) (y := 0) (B := none) (k' := 0) (c' := 0) (t := false) HKR.out
        have e0 := kR2.cell 0
        have e1 := kR2.cell 1
        have e2 := kR2.cell 2
        have e3 := kR2.cell 3
        have e4 := kR2.cell 4
        have e5 := kR2.cell 5
        simp only [World.rat] at e0 e1 e2 e3 e4 e5
        simp at e0 e1 e2 e3 e4 e5
        refine bodyPost_ret (v := .tuple #[.agg #[.int .i64 0, .slice none 0 0, .bool false, .int .i64 0, .slice none 0 0, .bool false], .bool false]) (by simp [results, Tryz.results72, go_sem, e0, e1, e2, e3, e4, e5]) rfl ?_
        exact RetRat.no HP.out ⟨_, _, _, _, _, _, _, _, _, _, rfl⟩ (rat_below (x := 0) (A := none) (k := 0) (c := 0) (s := false) (y := 0) (B := none) (k' := 0) (c' := 0) (t := false) HWR.out (Nat.le_refl _))
      | false =>
        cases is_ with
        | false =>
          have HP := hide (read_whole HPL.out (fun _ h => by have := za.symm.trans za1; rw [decide_eq_true h] at this; cases this) HI.out.symm)
          have HC := hide (plain_all HPL.out)
          rw [← HN.out] at HP
          have HAS := hide (show a.size ≤ 50000 by rw [← bts_length, HA.out]; exact HC.out.2)
          clear za zb zc hpb
          go_wp2_with fail
          refine (natOf_any a _ (by rw [HA.out]; exact HC.out.1) HAS.out).mono ?_
          rintro e w2 ⟨v, rfl, hv, hb2⟩
          rw [HA.out] at hv
          have HV := hide hv
          have HKR2 := hide (HKR.out.below hb2 lR)
          have HWR2 := hide (ext HWR.out hb2)
          clear hv hb2 r0 r1 r2 r3 r4 r5 f0 f1 f2 f3 f4 f5
          go_wp2_with fail
          refine (made_any true v _ w2 HV.out).mono ?_
          rintro e w3 ⟨v3, rfl, hv3, hb3⟩
          obtain ⟨x', A', k', c', ng', rfl, _, _, _⟩ := hv3.form
          have hb4 := ext_alloc w3 (.cells #[.int .i64 x', .slice A' k' c', .bool ng'] 69)
          have HV3 := hide (hv3.below hb4)
          have kR3 := (HKR2.out.below hb3 HKR2.out.lt).below hb4 (HKR2.out.below hb3 HKR2.out.lt).lt
          have HWR3 := hide (ext (ext HWR2.out hb3) hb4)
          have HKR3 := hide kR3
          have r0 := kR3.cell 0
          have r1 := kR3.cell 1
          have r2 := kR3.cell 2
          have r3 := kR3.cell 3
          have r4 := kR3.cell 4
          have r5 := kR3.cell 5
          have f0 := kR3.frozen 0
          have f1 := kR3.frozen 1
          have f2 := kR3.frozen 2
          have f3 := kR3.frozen 3
          have f4 := kR3.frozen 4
          have f5 := kR3.frozen 5
          simp at r0 r1 r2 r3 r4 r5
          have kX := Blk.new w3 69 #[.int .i64 x', .slice A' k' c', .bool ng']
          have g0 := kX.cell 0
          have g1 := kX.cell 1
          have g2 := kX.cell 2
          simp at g0 g1 g2
          clear hb3 hv3 hb4 kR3 kX lR
          go_wp2_with fail
          have kR4 := rat_blk (x := x') (A := A') (k := k') (c := c') (s := ng') (y := 1) (B := none) (k' := 0) (c' := 0) (t := false) HKR3.out
          have e0 := kR4.cell 0
          have e1 := kR4.cell 1
          have e2 := kR4.cell 2
          have e3 := kR4.cell 3
          have e4 := kR4.cell 4
          have e5 := kR4.cell 5
          simp only [World.rat] at e0 e1 e2 e3 e4 e5
          simp at e0 e1 e2 e3 e4 e5
          refine bodyPost_ret (v := .tuple #[.agg #[.int .i64 x', .slice A' k' c', .bool ng', .int .i64 1, .slice none 0 0, .bool false], .bool true]) (by simp [results, Tryz.results72, go_sem, e0, e1, e2, e3, e4, e5]) rfl ?_
          refine RetRat.yes HP.out ⟨_, _, _, _, _, _, _, _, _, _, rfl, ?_, ?_⟩ (rat_below HWR3.out (Nat.le_refl _))
          · rw [(ratOf_one _ _).1]
            exact rat_stored HV3.out HKR3.out
          · rw [(ratOf_one _ _).2]
            exact num_one _
        | true =>
          cases hpb2 : plainDigs (bts b) with
          | false =>
            have HP := hide (read_no3 HI.out.symm (.inl (by have := HB.out; rw [if_pos rfl] at this; rw [← this]; exact hpb2)))
            rw [hpb2] at hpb
            clear hpb2 za zb zc
            go_wp2_with fail
            refine (hpb _).mono ?_
            rintro e w2 ⟨rfl, rfl⟩
            go_wp2_with fail
            have kR2 := rat_blk (x := 0) (A := none) (k := 0) (c := 0) (s := false) (y := 0) (B := none) (k' := 0) (c' := 0) (t := false) HKR.out
            have e0 := kR2.cell 0
            have e1 := kR2.cell 1
            have e2 := kR2.cell 2
            have e3 := kR2.cell 3
            have e4 := kR2.cell 4
            have e5 := kR2.cell 5
            simp only [World.rat] at e0 e1 e2 e3 e4 e5
            simp at e0 e1 e2 e3 e4 e5
            refine bodyPost_ret (v := .tuple #[.agg #[.int .i64 0, .slice none 0 0, .bool false, .int .i64 0, .slice none 0 0, .bool false], .bool false]) (by simp [results, Tryz.results72, go_sem, e0, e1, e2, e3, e4, e5]) rfl ?_
            exact RetRat.no HP.out ⟨_, _, _, _, _, _, _, _, _, _, rfl⟩ (rat_below (x := 0) (A := none) (k := 0) (c := 0) (s := false) (y := 0) (B := none) (k' := 0) (c' := 0) (t := false) HWR.out (Nat.le_refl _))
          | true =>
            have HPB := hide hpb2
            rw [hpb2] at hpb
            clear hpb2
            cases zb1 : (b.toList == [48]) with
            | true =>
              have HP := hide (read_no3 HI.out.symm (.inr (.inl (by have := HB.out; rw [if_pos rfl] at this; rw [← this]; exact of_decide_eq_true (zb.symm.trans zb1)))))
              clear za zb zc
              go_wp2_with fail
              refine (hpb _).mono ?_
              rintro e w2 ⟨rfl, rfl⟩
              go_wp2_with fail
              have kR2 := rat_blk (x := 0) (A := none) (k := 0) (c := 0) (s := false) (y := 0) (B := none) (k' := 0) (c' := 0) (t := false) HKR.out
              have e0 := kR2.cell 0
              have e1 := kR2.cell 1
              have e2 := kR2.cell 2
              have e3 := kR2.cell 3
              have e4 := kR2.cell 4
              have e5 := kR2.cell 5
              simp only [World.rat] at e0 e1 e2 e3 e4 e5
              simp at e0 e1 e2 e3 e4 e5
              refine bodyPost_ret (v := .tuple #[.agg #[.int .i64 0, .slice none 0 0, .bool false, .int .i64 0, .slice none 0 0, .bool false], .bool false]) (by simp [results, Tryz.results72, go_sem, e0, e1, e2, e3, e4, e5]) rfl ?_
              exact RetRat.no HP.out ⟨_, _, _, _, _, _, _, _, _, _, rfl⟩ (rat_below (x := 0) (A := none) (k := 0) (c := 0) (s := false) (y := 0) (B := none) (k' := 0) (c' := 0) (t := false) HWR.out (Nat.le_refl _))
            | false =>
              cases zc1 : (b.toList == [49]) with
              | true =>
                have HP := hide (read_no3 HI.out.symm (.inr (.inr (.inl (by have := HB.out; rw [if_pos rfl] at this; rw [← this]; exact of_decide_eq_true (zc.symm.trans zc1))))))
                clear za zb zc
                go_wp2_with fail
                refine (hpb _).mono ?_
                rintro e w2 ⟨rfl, rfl⟩
                go_wp2_with fail
                have kR2 := rat_blk (x := 0) (A := none) (k := 0) (c := 0) (s := false) (y := 0) (B := none) (k' := 0) (c' := 0) (t := false) HKR.out
                have e0 := kR2.cell 0
                have e1 := kR2.cell 1
                have e2 := kR2.cell 2
                have e3 := kR2.cell 3
                have e4 := kR2.cell 4
                have e5 := kR2.cell 5
                simp only [World.rat] at e0 e1 e2 e3 e4 e5
                simp at e0 e1 e2 e3 e4 e5
                refine bodyPost_ret (v := .tuple #[.agg #[.int .i64 0, .slice none 0 0, .bool false, .int .i64 0, .slice none 0 0, .bool false], .bool false]) (by simp [results, Tryz.results72, go_sem, e0, e1, e2, e3, e4, e5]) rfl ?_
                exact RetRat.no HP.out ⟨_, _, _, _, _, _, _, _, _, _, rfl⟩ (rat_below (x := 0) (A := none) (k := 0) (c := 0) (s := false) (y := 0) (B := none) (k' := 0) (c' := 0) (t := false) HWR.out (Nat.le_refl _))
              | false =>
                have HBB := hide (show bts b = behind 47 (unsigned (bts s)) by rw [HB.out]; rfl)
                have HD := hide (plain_all HPB.out)
                have HP := hide (read_quot HPL.out (fun _ h => by have := za.symm.trans za1; rw [decide_eq_true h] at this; cases this) HI.out.symm (by rw [← HBB.out]; exact HPB.out) (fun h => by have := zb.symm.trans zb1; rw [decide_eq_true (HBB.out.trans h)] at this; cases this) (fun h => by have := zc.symm.trans zc1; rw [decide_eq_true (HBB.out.trans h)] at this; cases this))
                have HNZ := hide (plain_ne_zero (l := behind 47 (unsigned (bts s))) (by rw [← HBB.out]; exact HPB.out) (fun h => by have := zb.symm.trans zb1; rw [decide_eq_true (HBB.out.trans h)] at this; cases this))
                have HLD := hide (plain_len (l := behind 47 (unsigned (bts s))) (by rw [← HBB.out]; exact HPB.out))
                have HLN := hide (plain_len HPL.out)
                have HC := hide (plain_all HPL.out)
                rw [← HN.out] at HP
                have HAS := hide (show a.size ≤ 50000 by rw [← bts_length, HA.out]; exact HC.out.2)
                have HBS := hide (show b.size ≤ 50000 by rw [← bts_length]; exact HD.out.2)
                clear za zb zc
                go_wp2_with fail
                refine (hpb _).mono ?_
                rintro e w2 ⟨rfl, rfl⟩
                clear hpb
                obtain ⟨dn, hdn⟩ : ∃ dn, dn = decVal (behind 47 (unsigned (bts s))) := ⟨_, rfl⟩
                obtain ⟨nn, hnn⟩ : ∃ nn, nn = decVal (ahead 47 (unsigned (bts s))) := ⟨_, rfl⟩
                rw [← hdn, ← hnn] at HP
                rw [← hdn] at HNZ HLD
                rw [← hnn] at HLN
                have HDN := hide hdn
                have HNN := hide hnn
                clear hdn hnn
                go_wp2_with fail
                refine (natOf_any a _ (by rw [HA.out]; exact HC.out.1) HAS.out).mono ?_
                rintro e w2 ⟨v, rfl, hv, hb2⟩
                rw [HA.out, ← HNN.out] at hv
                have HV := hide hv
                have HKR2 := hide (HKR.out.below hb2 lR)
                have HWR2 := hide (ext HWR.out hb2)
                clear hv hb2 r0 r1 r2 r3 r4 r5 f0 f1 f2 f3 f4 f5
                go_wp2_with fail
                refine (made_any true v _ w2 HV.out).mono ?_
                rintro e w3 ⟨v3, rfl, hv3, hb3⟩
                obtain ⟨x', A', k', c', ng', rfl, _, _, _⟩ := hv3.form
                have hb4 := ext_alloc w3 (.cells #[.int .i64 x', .slice A' k' c', .bool ng'] 69)
                have HV3 := hide (hv3.below hb4)
                have kR3 := (HKR2.out.below hb3 HKR2.out.lt).below hb4 (HKR2.out.below hb3 HKR2.out.lt).lt
                have HWR3 := hide (ext (ext HWR2.out hb3) hb4)
                have HKR3 := hide kR3
                have kX := Blk.new w3 69 #[.int .i64 x', .slice A' k' c', .bool ng']
                have HKX := hide kX
                have lgx : w.heap.size < w3.heap.size := (HKR2.out.below hb3 HKR2.out.lt).lt
                clear hb3 hv3 hb4 kR3 kX lR
                go_wp2_with fail
                generalize hgx : w3.heap.size = gx at HKX lgx ⊢
                generalize w3.alloc (.cells #[.int .i64 x', .slice A' k' c', .bool ng'] 69) = W3 at HV3 HKR3 HWR3 HKX ⊢
                clear hgx
                refine (natOf_any b _ HD.out.1 HBS.out).mono ?_
                rintro e w4 ⟨v4, rfl, hv4, hb4⟩
                rw [HBB.out, ← HDN.out] at hv4
                have HV4 := hide hv4
                have HV3a := hide (HV3.out.below hb4)
                have HKR4 := hide (HKR3.out.below hb4 HKR3.out.lt)
                have HKX4 := hide (HKX.out.below hb4 HKX.out.lt)
                have HWR4 := hide (ext HWR3.out hb4)
                clear hv4 hb4
                go_wp2_with fail
                refine (made_any false v4 _ w4 HV4.out).mono ?_
                rintro e w5 ⟨v5, rfl, hv5, hb5⟩
                obtain ⟨y', B', m', d', nh', rfl, _, _, _⟩ := hv5.form
                have hb6 := ext_alloc w5 (.cells #[.int .i64 y', .slice B' m' d', .bool nh'] 69)
                have hbb := ext hb5 hb6
                have HV5 := hide (hv5.below hb6)
                have HV3b := hide (HV3a.out.below hbb)
                have HKR5 := hide (HKR4.out.below hbb HKR4.out.lt)
                have HKX5 := hide (HKX4.out.below hbb HKX4.out.lt)
                have HWR5 := hide (ext HWR4.out hbb)
                have HKY5 := hide (Blk.new w5 69 #[.int .i64 y', .slice B' m' d', .bool nh'])
                have lgy : w.heap.size < w5.heap.size := (HKR4.out.below hb5 HKR4.out.lt).lt
                have x0 := HKX5.out.cell 0
                have x1 := HKX5.out.cell 1
                have x2 := HKX5.out.cell 2
                simp at x0 x1 x2
                clear hb5 hb6 hbb hv5
                go_wp2_with fail
                generalize hgy : w5.heap.size = gy at HKY5 lgy ⊢
                generalize w5.alloc (.cells #[.int .i64 y', .slice B' m' d', .bool nh'] 69) = W5 at HV5 HV3b HKR5 HKX5 HWR5 HKY5 x0 x1 x2 ⊢
                clear hgy
                refine (over_any _ _ (signed true nn) (signed false dn) _ HV3b.out HV5.out (by have := HNZ.out; unfold signed; simp; omega) (Nat.le_trans (signed_len HLN.out) (by omega)) (Nat.le_trans (signed_len HLD.out) (by omega))).mono ?_
                rintro e w6 ⟨v6, rfl, hq, hb7⟩
                rw [signed_ratOf] at hq
                obtain ⟨q, hqq⟩ : ∃ q, q = ratOf true nn dn := ⟨_, rfl⟩
                rw [← hqq] at hq HP
                obtain ⟨x5, A5, k5, c5, n5, x6, A6, k6, c6, n6, rfl, hq1, hq2⟩ := hq
                have hb8 := ext_alloc w6 (.cells #[.int .i64 x5, .slice A5 k5 c5, .bool n5, .int .i64 x6, .slice A6 k6 c6, .bool n6] 71)
                have hbb := ext hb7 hb8
                have HQ1 := hide (hq1.below hb8)
                have HQ2 := hide (hq2.below hb8)
                have HV7 := hide (HV5.out.below hbb)
                have HKR7 := hide (show ResIs _ w.heap.size from ⟨_, _, _, _, _, _, _, _, _, _, HKR5.out.below hbb HKR5.out.lt⟩)
                have HKY7 := hide (HKY5.out.below hbb HKY5.out.lt)
                have HWR7 := hide (ext HWR5.out hbb)
                have HKQ := hide (Blk.new w6 71 #[.int .i64 x5, .slice A5 k5 c5, .bool n5, .int .i64 x6, .slice A6 k6 c6, .bool n6])
                have lgq : w.heap.size < w6.heap.size := (HKR5.out.below hb7 HKR5.out.lt).lt
                have HLQ := hide (show len 4294967296 (q.den : Int).natAbs ≤ 67108864 by
                  rw [hqq, ← signed_ratOf]
                  have h9 := over_parts (zn := signed true nn) (zd := signed false dn) (by have := HNZ.out; unfold signed; simp; omega) (Nat.le_trans (signed_len HLD.out) (by omega))
                  rw [h9.2.1]
                  refine Nat.le_trans (len_mono (by omega) (Int.natAbs_tdiv_le_natAbs _ _)) (Nat.le_trans (signed_len HLD.out) (by omega)))
                clear hb7 hb8 hbb hq1 hq2 x0 x1 x2 HKX HKX4 HKX5 HKR3 HKR4 HKR5 HKY5 HV3 HV3a HV3b HV5 HWR HWR2 HWR3 HWR4 HWR5 HKR HKR2 hqq
                go_wp2_with fail
                generalize hgq : w6.heap.size = gq at HKQ lgq ⊢
                generalize w6.alloc (.cells #[.int .i64 x5, .slice A5 k5 c5, .bool n5, .int .i64 x6, .slice A6 k6 c6, .bool n6] 71) = W7 at HQ1 HQ2 HV7 HKR7 HKY7 HWR7 HKQ ⊢
                clear hgq
                have hlq := HKQ.out.lt
                have hly := HKY7.out.lt
                have q0 := HKQ.out.cell 0
                have q1 := HKQ.out.cell 1
                have q2 := HKQ.out.cell 2
                have q3 := HKQ.out.cell 3
                have q4 := HKQ.out.cell 4
                have q5 := HKQ.out.cell 5
                have y0 := HKY7.out.cell 0
                have y1 := HKY7.out.cell 1
                have y2 := HKY7.out.cell 2
                simp at q0 q1 q2 q3 q4 q5 y0 y1 y2
                have HRES := hide (show ResIs W7.drew w.heap.size from HKR7.out)
                have HWX := hide (show Below w.heap.size w W7.drew from below_drewN HWR7.out 1)
                have HY1 := hide (show NumIs W7.drew _ q.num from HQ1.out.below (ext_drewN W7 1))
                have HY2 := hide (show NumIs W7.drew _ (q.den : Int) from HQ2.out.below (ext_drewN W7 1))
                have HY3 := hide (show NumIs W7.drew _ (signed false dn) from HV7.out.below (ext_drewN W7 1))
                clear HQ1 HQ2 HV7
                go_region_held3 (fun w' => w'.cell? ⟨gq, 0, none⟩ = some (.int .i64 x5) ∧ w'.cell? ⟨gq, 1, none⟩ = some (.slice A5 k5 c5) ∧ w'.cell? ⟨gq, 2, none⟩ = some (.bool n5) ∧ w'.cell? ⟨gq, 3, none⟩ = some (.int .i64 x6) ∧ w'.cell? ⟨gq, 4, none⟩ = some (.slice A6 k6 c6) ∧ w'.cell? ⟨gq, 5, none⟩ = some (.bool n6) ∧
                    w'.cell? ⟨gy, 0, none⟩ = some (.int .i64 y') ∧ w'.cell? ⟨gy, 1, none⟩ = some (.slice B' m' d') ∧ w'.cell? ⟨gy, 2, none⟩ = some (.bool nh') ∧ gq < w'.heap.size ∧ gy < w'.heap.size ∧ Hid (ResIs w' w.heap.size) ∧ Hid (Below w.heap.size w w') ∧ Hid (NumIs w' (.agg #[.int .i64 x5, .slice A5 k5 c5, .bool n5]) q.num) ∧ Hid (NumIs w' (.agg #[.int .i64 x6, .slice A6 k6 c6, .bool n6]) (q.den : Int)) ∧ Hid (NumIs w' (.agg #[.int .i64 y', .slice B' m' d', .bool nh']) (signed false dn)))
                  (first
                    | with_reducible exact ⟨by go_keep, by go_keep, by go_keep, by go_keep, by go_keep, by go_keep, by go_keep, by go_keep, by go_keep, by first | (simp; done) | (simp; assumption), by first | (simp; done) | (simp; assumption), HRES, HWX, HY1, HY2, HY3⟩
                    | (go_split_ands; with_reducible exact ⟨rat_cell (by omega) (by assumption), rat_cell (by omega) (by assumption), rat_cell (by omega) (by assumption), rat_cell (by omega) (by assumption), rat_cell (by omega) (by assumption), rat_cell (by omega) (by assumption), rat_cell (by omega) (by assumption), rat_cell (by omega) (by assumption), rat_cell (by omega) (by assumption), rat_size (by assumption), rat_size (by assumption), hid_res_rat (by assumption), hid_below_rat (by omega) (by assumption), hid_num_rat (by assumption) (by assumption), hid_num_rat (by assumption) (by assumption), hid_num_rat (by assumption) (by assumption)⟩)
                    | (go_split_ands; with_reducible exact ⟨cell_keep (by assumption) (by assumption) (by assumption), cell_keep (by assumption) (by assumption) (by assumption), cell_keep (by assumption) (by assumption) (by assumption), cell_keep (by assumption) (by assumption) (by assumption), cell_keep (by assumption) (by assumption) (by assumption), cell_keep (by assumption) (by assumption) (by assumption), cell_keep (by assumption) (by assumption) (by assumption), cell_keep (by assumption) (by assumption) (by assumption), cell_keep (by assumption) (by assumption) (by assumption), size_keep (by assumption) (by assumption), size_keep (by assumption) (by assumption), hid_res (by assumption) (by assumption), hid_below (by assumption) (by assumption), hid_num (by assumption) (by assumption), hid_num (by assumption) (by assumption), hid_num (by assumption) (by assumption)⟩)
                    | go_keep)
                  (first
                    | (go_at_call 111; refine (cmp_any _ _ (q.den : Int) (signed false dn) _ (unhide (by go_split_ands; assumption)) (unhide (by go_split_ands; assumption)) HLQ.out (Nat.le_trans (signed_len HLD.out) (by omega))).mono ?_; rintro e wo ⟨rfl, hbo⟩; obtain ⟨xr, Ar, kr, cr, sr, yr, Br, krx, crx, tr, kR⟩ := (hid_res (g := w.heap.size) hbo (by go_split_ands; assumption)).out; have r0 := kR.cell 0; have r1 := kR.cell 1; have r2 := kR.cell 2; have r3 := kR.cell 3; have r4 := kR.cell 4; have r5 := kR.cell 5; have f0 := kR.frozen 0; have f1 := kR.frozen 1; have f2 := kR.frozen 2; have f3 := kR.frozen 3; have f4 := kR.frozen 4; have f5 := kR.frozen 5; simp at r0 r1 r2 r3 r4 r5; have HKR := hide kR; clear kR))
                all_goals
                  go_split_ands
                  have kR2 := rat_blk (x := x5) (A := A5) (k := k5) (c := c5) (s := n5) (y := x6) (B := A6) (k' := k6) (c' := c6) (t := n6) HKR.out
                  have hR1 := unhide (by assumption : Hid (NumIs (World.rat wo w.heap.size x5 A5 k5 c5 n5 x6 A6 k6 c6 n6) (.agg #[.int .i64 x5, .slice A5 k5 c5, .bool n5]) q.num))
                  have hR2 := unhide (by assumption : Hid (NumIs (World.rat wo w.heap.size x5 A5 k5 c5 n5 x6 A6 k6 c6 n6) (.agg #[.int .i64 x6, .slice A6 k6 c6, .bool n6]) (q.den : Int)))
                  have hRW := unhide (by assumption : Hid (Below w.heap.size w (World.rat wo w.heap.size x5 A5 k5 c5 n5 x6 A6 k6 c6 n6)))
                  have e0 := kR2.cell 0
                  have e1 := kR2.cell 1
                  have e2 := kR2.cell 2
                  have e3 := kR2.cell 3
                  have e4 := kR2.cell 4
                  have e5 := kR2.cell 5
                  simp only [World.rat] at e0 e1 e2 e3 e4 e5
                  simp at e0 e1 e2 e3 e4 e5
                  go_wp2
                  refine bodyPost_ret (v := .tuple #[.agg #[.int .i64 x5, .slice A5 k5 c5, .bool n5, .int .i64 x6, .slice A6 k6 c6, .bool n6], .bool (cmpOf (q.den : Int) (signed false dn) == 0)]) (by simp [results, Tryz.results72, go_sem, e0, e1, e2, e3, e4, e5]) rfl ?_
                  exact RetRat.maybe HP.out ⟨_, _, _, _, _, _, _, _, _, _, rfl, hR1, hR2⟩ hRW
end Go.Proofs.YtdecgcdkaaiglaaGreat
namespace Go.Proofs.YtdecgcdkaaiglaaGreat
open Go.RowKit Go.Deep
attribute [local go_sem ↓] Go.wp_at_zero Go.wp_at_succ
set_option maxRecDepth 100000 in
theorem valid_any (s : ByteArray) (w : World) (hs : s.size ≤ 1073741824) :
    Calls Tryz.prog 52 #[.string s] w (RetB w (.bool (readFrac (bts s)).isSome)) := by
  have hr := fun w => rational_any s w hs
  go_enter Tryz.func52, Tryz.ntmps52
  go_wp2_with fail
  refine (hr _).mono ?_
  rintro e w1 ⟨v, b, rfl, ⟨x, A, k, c, s', y, B, k', c', t, rfl⟩, hb, _, hb1⟩
  have HB := hide hb
  have HW := hide hb1
  clear hb hb1 hr
  go_wp2_with fail
  go_ret
  exact ⟨ret_bool HB.out.symm, ext HW.out (ext_alloc _ _)⟩
/-- A call gives the numbers of two texts, and whether they are. -/
def RetTwo (w : World) (la lb : List UInt8) (e : Ending) (w' : World) : Prop :=
  ∃ v1 v2 b, e = .returned (.tuple #[v1, v2, .bool b]) ∧ AggR v1 ∧ AggR v2 ∧ b = ((readFrac la).isSome && (readFrac lb).isSome) ∧ (∀ q, readFrac la = some q → RatIs w' v1 q) ∧ (∀ q, readFrac lb = some q → RatIs w' v2 q) ∧ Below w.heap.size w w'
theorem RatIs.stored {W : World} {g : Nat} {v : Value} {q : Rat} {x y x0 y0 : Int} {A B A0 B0 : Option Addr} {k c k' c' k0 c0 k1 c1 : Nat} {s t s0 t0 : Bool} {t' : TypeId} (h : RatIs W v q)
    (hk : Blk W g t' #[.int .i64 x0, .slice A0 k0 c0, .bool s0, .int .i64 y0, .slice B0 k1 c1, .bool t0]) : RatIs (World.rat W g x A k c s y B k' c' t) v q := by
  obtain ⟨x5, A5, k5, c5, s5, y5, B5, k6, c6, t5, rfl, h1, h2⟩ := h
  exact ⟨_, _, _, _, _, _, _, _, _, _, rfl, rat_stored h1 hk, rat_stored h2 hk⟩
set_option maxRecDepth 100000 in
set_option maxHeartbeats 4000000 in
theorem two_any (a b : ByteArray) (w : World) (ha : a.size ≤ 1073741824) (hb : b.size ≤ 1073741824) :
    Calls Tryz.prog 75 #[.string a, .string b] w (RetTwo w (bts a) (bts b)) := by
  have hr1 := fun w => rational_any a w ha
  have hr2 := fun w => rational_any b w hb
  have kA := (Blk.new w 71 #[.int .i64 0, .slice none 0 0, .bool false, .int .i64 0, .slice none 0 0, .bool false]).alloc (.cells #[.int .i64 0, .slice none 0 0, .bool false, .int .i64 0, .slice none 0 0, .bool false] 71)
  have kB := Blk.new (w.alloc (.cells #[.int .i64 0, .slice none 0 0, .bool false, .int .i64 0, .slice none 0 0, .bool false] 71)) 71 #[.int .i64 0, .slice none 0 0, .bool false, .int .i64 0, .slice none 0 0, .bool false]
  have hW := ext (ext_alloc w (.cells #[.int .i64 0, .slice none 0 0, .bool false, .int .i64 0, .slice none 0 0, .bool false] 71)) (ext_alloc _ (.cells #[.int .i64 0, .slice none 0 0, .bool false, .int .i64 0, .slice none 0 0, .bool false] 71))
  simp only [World.size_alloc] at kB
  go_enter Tryz.func75, Tryz.ntmps75
  go_wp2_with fail
  generalize (w.alloc (.cells #[.int .i64 0, .slice none 0 0, .bool false, .int .i64 0, .slice none 0 0, .bool false] 71)).alloc (.cells #[.int .i64 0, .slice none 0 0, .bool false, .int .i64 0, .slice none 0 0, .bool false] 71) = W at kA kB hW ⊢
  refine (hr1 _).mono ?_
  rintro e w1 ⟨v1, b1, rfl, ⟨x1, A1, k1, c1, s1, y1, B1, k1x, c1x, t1, rfl⟩, hb1, hq1, hbl1⟩
  have kA1 := kA.below hbl1 kA.lt
  have kB1 := kB.below hbl1 kB.lt
  have a0 := kA1.cell 0
  have a1 := kA1.cell 1
  have a2 := kA1.cell 2
  have a3 := kA1.cell 3
  have a4 := kA1.cell 4
  have a5 := kA1.cell 5
  have f0 := kA1.frozen 0
  have f1 := kA1.frozen 1
  have f2 := kA1.frozen 2
  have f3 := kA1.frozen 3
  have f4 := kA1.frozen 4
  have f5 := kA1.frozen 5
  simp at a0 a1 a2 a3 a4 a5
  have HA1 := hide (rat_blk (x := x1) (A := A1) (k := k1) (c := c1) (s := s1) (y := y1) (B := B1) (k' := k1x) (c' := c1x) (t := t1) kA1)
  have HB1 := hide (rat_far (g' := w.heap.size) (x := x1) (A := A1) (k := k1) (c := c1) (s := s1) (y := y1) (B := B1) (k' := k1x) (c' := c1x) (t := t1) kB1 (by omega))
  have HQ1 := hide (show ∀ q, readFrac (bts a) = some q → RatIs (World.rat w1 w.heap.size x1 A1 k1 c1 s1 y1 B1 k1x c1x t1) _ q from fun q hq => (hq1 q hq).stored kA1)
  have HW1 := hide (rat_below (g := w.heap.size) (x := x1) (A := A1) (k := k1) (c := c1) (s := s1) (y := y1) (B := B1) (k' := k1x) (c' := c1x) (t := t1) (ext hW hbl1) (Nat.le_refl _))
  have HE1 := hide hb1
  clear kA kB hW hb1 hq1 hbl1 kA1 kB1 hr1
  simp only [World.rat] at HA1 HB1 HQ1 HW1
  go_wp2_with fail
  generalize (((((w1.setCell { block := w.heap.size, off := 0 } (.int .i64 x1)).setCell { block := w.heap.size, off := 1 } (.slice A1 k1 c1)).setCell { block := w.heap.size, off := 2 } (.bool s1)).setCell { block := w.heap.size, off := 3 } (.int .i64 y1)).setCell { block := w.heap.size, off := 4 } (.slice B1 k1x c1x)).setCell { block := w.heap.size, off := 5 } (.bool t1) = W1 at HA1 HB1 HQ1 HW1 ⊢
  clear a0 a1 a2 a3 a4 a5 f0 f1 f2 f3 f4 f5
  refine (hr2 _).mono ?_
  rintro e w2 ⟨v2, b2, rfl, ⟨x2, A2, k2, c2, s2, y2, B2, k2x, c2x, t2, rfl⟩, hb2, hq2, hbl2⟩
  have kA2 := HA1.out.below hbl2 HA1.out.lt
  have kB2 := HB1.out.below hbl2 HB1.out.lt
  have a0 := kB2.cell 0
  have a1 := kB2.cell 1
  have a2 := kB2.cell 2
  have a3 := kB2.cell 3
  have a4 := kB2.cell 4
  have a5 := kB2.cell 5
  have f0 := kB2.frozen 0
  have f1 := kB2.frozen 1
  have f2 := kB2.frozen 2
  have f3 := kB2.frozen 3
  have f4 := kB2.frozen 4
  have f5 := kB2.frozen 5
  simp at a0 a1 a2 a3 a4 a5
  have HB2 := hide (rat_blk (x := x2) (A := A2) (k := k2) (c := c2) (s := s2) (y := y2) (B := B2) (k' := k2x) (c' := c2x) (t := t2) kB2)
  have HA2 := hide (rat_far (g' := w.heap.size + 1) (x := x2) (A := A2) (k := k2) (c := c2) (s := s2) (y := y2) (B := B2) (k' := k2x) (c' := c2x) (t := t2) kA2 (by omega))
  have HQ1' := hide (show ∀ q, readFrac (bts a) = some q → RatIs (World.rat w2 (w.heap.size + 1) x2 A2 k2 c2 s2 y2 B2 k2x c2x t2) _ q from fun q hq => ((HQ1.out q hq).below hbl2).stored kB2)
  have HQ2 := hide (show ∀ q, readFrac (bts b) = some q → RatIs (World.rat w2 (w.heap.size + 1) x2 A2 k2 c2 s2 y2 B2 k2x c2x t2) _ q from fun q hq => (hq2 q hq).stored kB2)
  have HW2 := hide (rat_below (g := w.heap.size + 1) (x := x2) (A := A2) (k := k2) (c := c2) (s := s2) (y := y2) (B := B2) (k' := k2x) (c' := c2x) (t := t2) (ext HW1.out hbl2) (by omega))
  have HE2 := hide hb2
  clear hb2 hq2 hbl2 kA2 kB2 hr2 HA1 HB1 HQ1 HW1
  simp only [World.rat] at HA2 HB2 HQ1' HQ2 HW2
  go_wp2_with fail
  generalize (((((w2.setCell { block := w.heap.size + 1, off := 0 } (.int .i64 x2)).setCell { block := w.heap.size + 1, off := 1 } (.slice A2 k2 c2)).setCell { block := w.heap.size + 1, off := 2 } (.bool s2)).setCell { block := w.heap.size + 1, off := 3 } (.int .i64 y2)).setCell { block := w.heap.size + 1, off := 4 } (.slice B2 k2x c2x)).setCell { block := w.heap.size + 1, off := 5 } (.bool t2) = W2 at HA2 HB2 HQ1' HQ2 HW2 ⊢
  clear a0 a1 a2 a3 a4 a5 f0 f1 f2 f3 f4 f5
  have a0 := HA2.out.cell 0
  have a1 := HA2.out.cell 1
  have a2 := HA2.out.cell 2
  have a3 := HA2.out.cell 3
  have a4 := HA2.out.cell 4
  have a5 := HA2.out.cell 5
  have f0 := HA2.out.frozen 0
  have f1 := HA2.out.frozen 1
  have f2 := HA2.out.frozen 2
  have f3 := HA2.out.frozen 3
  have f4 := HA2.out.frozen 4
  have f5 := HA2.out.frozen 5
  have d0 := HB2.out.cell 0
  have d1 := HB2.out.cell 1
  have d2 := HB2.out.cell 2
  have d3 := HB2.out.cell 3
  have d4 := HB2.out.cell 4
  have d5 := HB2.out.cell 5
  have g0 := HB2.out.frozen 0
  have g1 := HB2.out.frozen 1
  have g2 := HB2.out.frozen 2
  have g3 := HB2.out.frozen 3
  have g4 := HB2.out.frozen 4
  have g5 := HB2.out.frozen 5
  simp at a0 a1 a2 a3 a4 a5 d0 d1 d2 d3 d4 d5
  cases b1 with
  | true =>
    have HR := hide (show b2 = ((readFrac (bts a)).isSome && (readFrac (bts b)).isSome) by rw [← HE1.out, ← HE2.out]; rfl)
    go_region
    go_wp2
    have kA3 := rat_blk (x := x1) (A := A1) (k := k1) (c := c1) (s := s1) (y := y1) (B := B1) (k' := k1x) (c' := c1x) (t := t1) HA2.out
    have kB3 := rat_far (g' := w.heap.size) (x := x1) (A := A1) (k := k1) (c := c1) (s := s1) (y := y1) (B := B1) (k' := k1x) (c' := c1x) (t := t1) HB2.out (by omega)
    have kA4 := rat_far (g' := w.heap.size + 1) (x := x2) (A := A2) (k := k2) (c := c2) (s := s2) (y := y2) (B := B2) (k' := k2x) (c' := c2x) (t := t2) kA3 (by omega)
    have kB4 := rat_blk (x := x2) (A := A2) (k := k2) (c := c2) (s := s2) (y := y2) (B := B2) (k' := k2x) (c' := c2x) (t := t2) kB3
    have e0 := kA4.cell 0
    have e1 := kA4.cell 1
    have e2 := kA4.cell 2
    have e3 := kA4.cell 3
    have e4 := kA4.cell 4
    have e5 := kA4.cell 5
    have h0 := kB4.cell 0
    have h1 := kB4.cell 1
    have h2 := kB4.cell 2
    have h3 := kB4.cell 3
    have h4 := kB4.cell 4
    have h5 := kB4.cell 5
    simp only [World.rat] at e0 e1 e2 e3 e4 e5 h0 h1 h2 h3 h4 h5
    simp at e0 e1 e2 e3 e4 e5 h0 h1 h2 h3 h4 h5
    refine bodyPost_ret (v := .tuple #[.agg #[.int .i64 x1, .slice A1 k1 c1, .bool s1, .int .i64 y1, .slice B1 k1x c1x, .bool t1], .agg #[.int .i64 x2, .slice A2 k2 c2, .bool s2, .int .i64 y2, .slice B2 k2x c2x, .bool t2], .bool b2]) (by simp [results, Tryz.results75, go_sem, e0, e1, e2, e3, e4, e5, h0, h1, h2, h3, h4, h5]) rfl ?_
    have hd := ext_drewN (World.rat (World.rat W2 w.heap.size x1 A1 k1 c1 s1 y1 B1 k1x c1x t1) (w.heap.size + 1) x2 A2 k2 c2 s2 y2 B2 k2x c2x t2) 1
    exact ⟨_, _, _, rfl, ⟨_, _, _, _, _, _, _, _, _, _, rfl⟩, ⟨_, _, _, _, _, _, _, _, _, _, rfl⟩, HR.out, fun q hq => (((HQ1'.out q hq).stored HA2.out).stored kB3).below hd, fun q hq => (((HQ2.out q hq).stored HA2.out).stored kB3).below hd, below_drewN (rat_below (rat_below HW2.out (Nat.le_refl _)) (by omega)) 1⟩
  | false =>
    have HR := hide (show false = ((readFrac (bts a)).isSome && (readFrac (bts b)).isSome) by rw [← HE1.out]; rfl)
    go_region
    go_wp2
    have kA3 := rat_blk (x := x1) (A := A1) (k := k1) (c := c1) (s := s1) (y := y1) (B := B1) (k' := k1x) (c' := c1x) (t := t1) HA2.out
    have kB3 := rat_far (g' := w.heap.size) (x := x1) (A := A1) (k := k1) (c := c1) (s := s1) (y := y1) (B := B1) (k' := k1x) (c' := c1x) (t := t1) HB2.out (by omega)
    have kA4 := rat_far (g' := w.heap.size + 1) (x := x2) (A := A2) (k := k2) (c := c2) (s := s2) (y := y2) (B := B2) (k' := k2x) (c' := c2x) (t := t2) kA3 (by omega)
    have kB4 := rat_blk (x := x2) (A := A2) (k := k2) (c := c2) (s := s2) (y := y2) (B := B2) (k' := k2x) (c' := c2x) (t := t2) kB3
    have e0 := kA4.cell 0
    have e1 := kA4.cell 1
    have e2 := kA4.cell 2
    have e3 := kA4.cell 3
    have e4 := kA4.cell 4
    have e5 := kA4.cell 5
    have h0 := kB4.cell 0
    have h1 := kB4.cell 1
    have h2 := kB4.cell 2
    have h3 := kB4.cell 3
    have h4 := kB4.cell 4
    have h5 := kB4.cell 5
    simp only [World.rat] at e0 e1 e2 e3 e4 e5 h0 h1 h2 h3 h4 h5
    simp at e0 e1 e2 e3 e4 e5 h0 h1 h2 h3 h4 h5
    refine bodyPost_ret (v := .tuple #[.agg #[.int .i64 x1, .slice A1 k1 c1, .bool s1, .int .i64 y1, .slice B1 k1x c1x, .bool t1], .agg #[.int .i64 x2, .slice A2 k2 c2, .bool s2, .int .i64 y2, .slice B2 k2x c2x, .bool t2], .bool false]) (by simp [results, Tryz.results75, go_sem, e0, e1, e2, e3, e4, e5, h0, h1, h2, h3, h4, h5]) rfl ?_
    have hd := ext_drewN (World.rat (World.rat W2 w.heap.size x1 A1 k1 c1 s1 y1 B1 k1x c1x t1) (w.heap.size + 1) x2 A2 k2 c2 s2 y2 B2 k2x c2x t2) 1
    exact ⟨_, _, _, rfl, ⟨_, _, _, _, _, _, _, _, _, _, rfl⟩, ⟨_, _, _, _, _, _, _, _, _, _, rfl⟩, HR.out, fun q hq => (((HQ1'.out q hq).stored HA2.out).stored kB3).below hd, fun q hq => (((HQ2.out q hq).stored HA2.out).stored kB3).below hd, below_drewN (rat_below (rat_below HW2.out (Nat.le_refl _)) (by omega)) 1⟩
end Go.Proofs.YtdecgcdkaaiglaaGreat
namespace Go.Proofs.YtdecgcdkaaiglaaGreat
open Go.RowKit Go.Deep
/-- what comes of reckoning with two texts -/
def op2 (f : Rat → Rat → Rat) (la lb : List UInt8) : List UInt8 × Int := match readFrac la, readFrac lb with
  | some x, some y => toldOf (f x y)
  | _, _ => ([], 4)
theorem op2_no {f : Rat → Rat → Rat} {la lb : List UInt8} (h : ((readFrac la).isSome && (readFrac lb).isSome) = false) : op2 f la lb = ([], 4) := by
  unfold op2
  cases ha : readFrac la with
  | none => rfl
  | some x =>
    cases hb : readFrac lb with
    | none => rfl
    | some y => rw [ha, hb] at h; cases h
theorem two_some {la lb : List UInt8} (h : ((readFrac la).isSome && (readFrac lb).isSome) = true) : ∃ x y, readFrac la = some x ∧ readFrac lb = some y := by
  cases ha : readFrac la with
  | none => rw [ha] at h; cases h
  | some x =>
    cases hb : readFrac lb with
    | none => rw [ha, hb] at h; cases h
    | some y => exact ⟨x, y, rfl, rfl⟩
theorem op2_yes {f : Rat → Rat → Rat} {la lb : List UInt8} {x y : Rat} (ha : readFrac la = some x) (hb : readFrac lb = some y) : op2 f la lb = toldOf (f x y) := by unfold op2; rw [ha, hb]
theorem rlen_of {l : List UInt8} {q : Rat} (h : readFrac l = some q) : RLen 50000 q := (readFrac_some.1 h).2.len
theorem RLen.more {M K : Nat} {q : Rat} (h : RLen M q) (hM : M ≤ K) : RLen K q := ⟨Nat.le_trans h.1 hM, Nat.le_trans h.2 hM⟩
/-- so many digits to the base ten: as many to the base 2^32, at most -/
theorem RLen.of_dz {e : Nat} {q : Rat} (h : Dz e q) : RLen (e + 1) q := (Dz.short h (Nat.lt_succ_self e)).len
theorem dz_of {l : List UInt8} {q : Rat} (h : readFrac l = some q) : Dz 50000 q := (readFrac_some.1 h).2.sz
theorem dz_div {e f : Nat} {p q : Rat} (hp : Dz e p) (hq : Dz f q) (h : q ≠ 0) : Dz (e + f) (p / q) := by
  rw [← rat_div _ _ h]
  have hn : q.num ≠ 0 := fun e => h (Rat.num_eq_zero.1 e)
  refine sz_of (s := (p.den : Int) * q.num) (M := p.num * q.den) (Int.mul_ne_zero (by have := p.den_nz; omega) hn) ?_ ?_ ?_
  · rw [Rat.divInt_eq_div]
    have h1 := cast_ne (Int.mul_ne_zero (show (p.den : Int) ≠ 0 by have := p.den_nz; omega) hn)
    grind
  · rw [Int.natAbs_mul, Nat.pow_add]; exact Nat.mul_le_mul hp.1 (by simpa using hq.2)
  · rw [Int.natAbs_mul, Nat.pow_add]; exact Nat.mul_le_mul (by simpa using hp.2) hq.1
set_option maxRecDepth 100000 in
set_option maxHeartbeats 2000000 in
theorem reckon_add (a b : ByteArray) (w : World) (ha : a.size ≤ 1073741824) (hb : b.size ≤ 1073741824) :
    Calls Tryz.prog 41 #[.string a, .string b, .func (.func 57) #[] #[]] w (RetT w (op2 (· + ·) (bts a) (bts b))) := by
  have ht := fun w => two_any a b w ha hb
  go_enter Tryz.func41, Tryz.ntmps41
  go_wp2_with fail
  refine (ht _).mono ?_
  rintro e w1 ⟨v1, v2, bb, rfl, ⟨x1, A1, k1, c1, s1, y1, B1, k1x, c1x, t1, rfl⟩, ⟨x2, A2, k2, c2, s2, y2, B2, k2x, c2x, t2, rfl⟩, hbb, hq1, hq2, hW⟩
  have hb1 := ext (ext_alloc w1 (.cells #[.int .i64 x1, .slice A1 k1 c1, .bool s1, .int .i64 y1, .slice B1 k1x c1x, .bool t1] 71)) (ext_alloc _ (.cells #[.int .i64 x2, .slice A2 k2 c2, .bool s2, .int .i64 y2, .slice B2 k2x c2x, .bool t2] 71))
  have HQ1 := hide (show ∀ q, readFrac (bts a) = some q → RatIs _ _ q from fun q hq => (hq1 q hq).below hb1)
  have HQ2 := hide (show ∀ q, readFrac (bts b) = some q → RatIs _ _ q from fun q hq => (hq2 q hq).below hb1)
  have HW := hide (ext hW hb1)
  clear hq1 hq2 hW hb1 ht
  cases bb with
  | false =>
    have HR := hide (op2_no (f := (· + ·)) hbb.symm)
    clear hbb
    go_wp2_with fail
    go_ret2
    rw [HR.out]
    exact ⟨rfl, HW.out⟩
  | true =>
    obtain ⟨x, y, hx, hy⟩ := two_some hbb.symm
    have HR := hide (op2_yes (f := (· + ·)) hx hy)
    have HX := hide hx
    have HY := hide hy
    clear hbb hx hy
    go_wp2_with fail
    refine (rat_add_any _ _ x y _ (HQ1.out x HX.out) (HQ2.out y HY.out) ((rlen_of HX.out).more (by omega)) ((rlen_of HY.out).more (by omega))).mono ?_
    rintro e w2 ⟨v, rfl, hv, hb2⟩
    have HL := hide (show RLen 67108864 ((· + ·) x y) from (RLen.of_dz (e := 100001) (Dz.add (dz_of HX.out) (dz_of HY.out) (by omega))).more (by omega))
    have HV := hide hv
    have HW2 := hide (ext HW.out hb2)
    clear hv hb2
    go_wp2_with fail
    refine (told_any v _ w2 HV.out HL.out).mono ?_
    rintro e w3 ⟨rfl, hb3⟩
    have HB3 := hide hb3
    clear hb3
    go_wp2_with fail
    go_ret2
    rw [HR.out]
    exact ⟨rfl, ext HW2.out HB3.out⟩
set_option maxRecDepth 100000 in
set_option maxHeartbeats 2000000 in
theorem reckon_sub (a b : ByteArray) (w : World) (ha : a.size ≤ 1073741824) (hb : b.size ≤ 1073741824) :
    Calls Tryz.prog 41 #[.string a, .string b, .func (.func 56) #[] #[]] w (RetT w (op2 (· - ·) (bts a) (bts b))) := by
  have ht := fun w => two_any a b w ha hb
  go_enter Tryz.func41, Tryz.ntmps41
  go_wp2_with fail
  refine (ht _).mono ?_
  rintro e w1 ⟨v1, v2, bb, rfl, ⟨x1, A1, k1, c1, s1, y1, B1, k1x, c1x, t1, rfl⟩, ⟨x2, A2, k2, c2, s2, y2, B2, k2x, c2x, t2, rfl⟩, hbb, hq1, hq2, hW⟩
  have hb1 := ext (ext_alloc w1 (.cells #[.int .i64 x1, .slice A1 k1 c1, .bool s1, .int .i64 y1, .slice B1 k1x c1x, .bool t1] 71)) (ext_alloc _ (.cells #[.int .i64 x2, .slice A2 k2 c2, .bool s2, .int .i64 y2, .slice B2 k2x c2x, .bool t2] 71))
  have HQ1 := hide (show ∀ q, readFrac (bts a) = some q → RatIs _ _ q from fun q hq => (hq1 q hq).below hb1)
  have HQ2 := hide (show ∀ q, readFrac (bts b) = some q → RatIs _ _ q from fun q hq => (hq2 q hq).below hb1)
  have HW := hide (ext hW hb1)
  clear hq1 hq2 hW hb1 ht
  cases bb with
  | false =>
    have HR := hide (op2_no (f := (· - ·)) hbb.symm)
    clear hbb
    go_wp2_with fail
    go_ret2
    rw [HR.out]
    exact ⟨rfl, HW.out⟩
  | true =>
    obtain ⟨x, y, hx, hy⟩ := two_some hbb.symm
    have HR := hide (op2_yes (f := (· - ·)) hx hy)
    have HX := hide hx
    have HY := hide hy
    clear hbb hx hy
    go_wp2_with fail
    refine (rat_sub_any _ _ x y _ (HQ1.out x HX.out) (HQ2.out y HY.out) ((rlen_of HX.out).more (by omega)) ((rlen_of HY.out).more (by omega))).mono ?_
    rintro e w2 ⟨v, rfl, hv, hb2⟩
    have HL := hide (show RLen 67108864 ((· - ·) x y) from (RLen.of_dz (e := 100001) (Dz.sub (dz_of HX.out) (dz_of HY.out) (by omega))).more (by omega))
    have HV := hide hv
    have HW2 := hide (ext HW.out hb2)
    clear hv hb2
    go_wp2_with fail
    refine (told_any v _ w2 HV.out HL.out).mono ?_
    rintro e w3 ⟨rfl, hb3⟩
    have HB3 := hide hb3
    clear hb3
    go_wp2_with fail
    go_ret2
    rw [HR.out]
    exact ⟨rfl, ext HW2.out HB3.out⟩
set_option maxRecDepth 100000 in
set_option maxHeartbeats 2000000 in
theorem reckon_mul (a b : ByteArray) (w : World) (ha : a.size ≤ 1073741824) (hb : b.size ≤ 1073741824) :
    Calls Tryz.prog 41 #[.string a, .string b, .func (.func 42) #[] #[]] w (RetT w (op2 (· * ·) (bts a) (bts b))) := by
  have ht := fun w => two_any a b w ha hb
  go_enter Tryz.func41, Tryz.ntmps41
  go_wp2_with fail
  refine (ht _).mono ?_
  rintro e w1 ⟨v1, v2, bb, rfl, ⟨x1, A1, k1, c1, s1, y1, B1, k1x, c1x, t1, rfl⟩, ⟨x2, A2, k2, c2, s2, y2, B2, k2x, c2x, t2, rfl⟩, hbb, hq1, hq2, hW⟩
  have hb1 := ext (ext_alloc w1 (.cells #[.int .i64 x1, .slice A1 k1 c1, .bool s1, .int .i64 y1, .slice B1 k1x c1x, .bool t1] 71)) (ext_alloc _ (.cells #[.int .i64 x2, .slice A2 k2 c2, .bool s2, .int .i64 y2, .slice B2 k2x c2x, .bool t2] 71))
  have HQ1 := hide (show ∀ q, readFrac (bts a) = some q → RatIs _ _ q from fun q hq => (hq1 q hq).below hb1)
  have HQ2 := hide (show ∀ q, readFrac (bts b) = some q → RatIs _ _ q from fun q hq => (hq2 q hq).below hb1)
  have HW := hide (ext hW hb1)
  clear hq1 hq2 hW hb1 ht
  cases bb with
  | false =>
    have HR := hide (op2_no (f := (· * ·)) hbb.symm)
    clear hbb
    go_wp2_with fail
    go_ret2
    rw [HR.out]
    exact ⟨rfl, HW.out⟩
  | true =>
    obtain ⟨x, y, hx, hy⟩ := two_some hbb.symm
    have HR := hide (op2_yes (f := (· * ·)) hx hy)
    have HX := hide hx
    have HY := hide hy
    clear hbb hx hy
    go_wp2_with fail
    refine (rat_mul_any _ _ x y _ (HQ1.out x HX.out) (HQ2.out y HY.out) ((rlen_of HX.out).more (by omega)) ((rlen_of HY.out).more (by omega))).mono ?_
    rintro e w2 ⟨v, rfl, hv, hb2⟩
    have HL := hide (show RLen 67108864 ((· * ·) x y) from (RLen.of_dz (e := 100001) (Dz.mul (dz_of HX.out) (dz_of HY.out) (by omega))).more (by omega))
    have HV := hide hv
    have HW2 := hide (ext HW.out hb2)
    clear hv hb2
    go_wp2_with fail
    refine (told_any v _ w2 HV.out HL.out).mono ?_
    rintro e w3 ⟨rfl, hb3⟩
    have HB3 := hide hb3
    clear hb3
    go_wp2_with fail
    go_ret2
    rw [HR.out]
    exact ⟨rfl, ext HW2.out HB3.out⟩
set_option maxRecDepth 100000 in
set_option maxHeartbeats 2000000 in
theorem reckon_div (a b : ByteArray) (w : World) (ha : a.size ≤ 1073741824) (hb : b.size ≤ 1073741824) (h0 : ∀ y, readFrac (bts b) = some y → y ≠ 0) :
    Calls Tryz.prog 41 #[.string a, .string b, .func (.func 74) #[] #[]] w (RetT w (op2 (· / ·) (bts a) (bts b))) := by
  have ht := fun w => two_any a b w ha hb
  go_enter Tryz.func41, Tryz.ntmps41
  go_wp2_with fail
  refine (ht _).mono ?_
  rintro e w1 ⟨v1, v2, bb, rfl, ⟨x1, A1, k1, c1, s1, y1, B1, k1x, c1x, t1, rfl⟩, ⟨x2, A2, k2, c2, s2, y2, B2, k2x, c2x, t2, rfl⟩, hbb, hq1, hq2, hW⟩
  have hb1 := ext (ext_alloc w1 (.cells #[.int .i64 x1, .slice A1 k1 c1, .bool s1, .int .i64 y1, .slice B1 k1x c1x, .bool t1] 71)) (ext_alloc _ (.cells #[.int .i64 x2, .slice A2 k2 c2, .bool s2, .int .i64 y2, .slice B2 k2x c2x, .bool t2] 71))
  have HQ1 := hide (show ∀ q, readFrac (bts a) = some q → RatIs _ _ q from fun q hq => (hq1 q hq).below hb1)
  have HQ2 := hide (show ∀ q, readFrac (bts b) = some q → RatIs _ _ q from fun q hq => (hq2 q hq).below hb1)
  have HW := hide (ext hW hb1)
  clear hq1 hq2 hW hb1 ht
  cases bb with
  | false =>
    have HR := hide (op2_no (f := (· / ·)) hbb.symm)
    clear hbb
    go_wp2_with fail
    go_ret2
    rw [HR.out]
    exact ⟨rfl, HW.out⟩
  | true =>
    obtain ⟨x, y, hx, hy⟩ := two_some hbb.symm
    have HR := hide (op2_yes (f := (· / ·)) hx hy)
    have HX := hide hx
    have HY := hide hy
    clear hbb hx hy
    go_wp2_with fail
    refine (rat_div_any _ _ x y _ (HQ1.out x HX.out) (HQ2.out y HY.out) ((rlen_of HX.out).more (by omega)) ((rlen_of HY.out).more (by omega)) (h0 y HY.out)).mono ?_
    rintro e w2 ⟨v, rfl, hv, hb2⟩
    have HL := hide (show RLen 67108864 ((· / ·) x y) from (RLen.of_dz (e := 100001) ((dz_div (dz_of HX.out) (dz_of HY.out) (h0 y HY.out)).more (by omega))).more (by omega))
    have HV := hide hv
    have HW2 := hide (ext HW.out hb2)
    clear hv hb2
    go_wp2_with fail
    refine (told_any v _ w2 HV.out HL.out).mono ?_
    rintro e w3 ⟨rfl, hb3⟩
    have HB3 := hide hb3
    clear hb3
    go_wp2_with fail
    go_ret2
    rw [HR.out]
    exact ⟨rfl, ext HW2.out HB3.out⟩
set_option maxRecDepth 100000 in
theorem Add_any (a b : ByteArray) (w : World) (ha : a.size ≤ 1073741824) (hb : b.size ≤ 1073741824) :
    Calls Tryz.prog 22 #[.string a, .string b] w (RetT w (op2 (· + ·) (bts a) (bts b))) := by
  have hr := fun w => reckon_add a b w ha hb
  go_enter Tryz.func22, Tryz.ntmps22
  go_wp2_with fail
  refine (hr _).mono ?_
  rintro e w1 ⟨rfl, hb1⟩
  have HB1 := hide hb1
  clear hb1 hr
  go_wp2_with fail
  go_ret2
  exact ⟨rfl, HB1.out⟩
set_option maxRecDepth 100000 in
theorem Sub_any (a b : ByteArray) (w : World) (ha : a.size ≤ 1073741824) (hb : b.size ≤ 1073741824) :
    Calls Tryz.prog 21 #[.string a, .string b] w (RetT w (op2 (· - ·) (bts a) (bts b))) := by
  have hr := fun w => reckon_sub a b w ha hb
  go_enter Tryz.func21, Tryz.ntmps21
  go_wp2_with fail
  refine (hr _).mono ?_
  rintro e w1 ⟨rfl, hb1⟩
  have HB1 := hide hb1
  clear hb1 hr
  go_wp2_with fail
  go_ret2
  exact ⟨rfl, HB1.out⟩
set_option maxRecDepth 100000 in
theorem Mul_any (a b : ByteArray) (w : World) (ha : a.size ≤ 1073741824) (hb : b.size ≤ 1073741824) :
    Calls Tryz.prog 13 #[.string a, .string b] w (RetT w (op2 (· * ·) (bts a) (bts b))) := by
  have hr := fun w => reckon_mul a b w ha hb
  go_enter Tryz.func13, Tryz.ntmps13
  go_wp2_with fail
  refine (hr _).mono ?_
  rintro e w1 ⟨rfl, hb1⟩
  have HB1 := hide hb1
  clear hb1 hr
  go_wp2_with fail
  go_ret2
  exact ⟨rfl, HB1.out⟩
/-- the order of two texts, or its error -/
def cmp2 (la lb : List UInt8) : Int × Int := match readFrac la, readFrac lb with
  | some x, some y => (cmpQ x y, 0)
  | _, _ => (0, 4)
def RetI2 (w : World) (r : Int × Int) (e : Ending) (w' : World) : Prop := e = .returned (.tuple #[.int .i64 r.1, .int .i64 r.2]) ∧ Below w.heap.size w w'
set_option maxRecDepth 100000 in
set_option maxHeartbeats 2000000 in
theorem Cmp_any (a b : ByteArray) (w : World) (ha : a.size ≤ 1073741824) (hb : b.size ≤ 1073741824) :
    Calls Tryz.prog 32 #[.string a, .string b] w (RetI2 w (cmp2 (bts a) (bts b))) := by
  have ht := fun w => two_any a b w ha hb
  go_enter Tryz.func32, Tryz.ntmps32
  go_wp2_with fail
  refine (ht _).mono ?_
  rintro e w1 ⟨v1, v2, bb, rfl, ⟨x1, A1, k1, c1, s1, y1, B1, k1x, c1x, t1, rfl⟩, ⟨x2, A2, k2, c2, s2, y2, B2, k2x, c2x, t2, rfl⟩, hbb, hq1, hq2, hW⟩
  have hb1 := ext (ext_alloc w1 (.cells #[.int .i64 x1, .slice A1 k1 c1, .bool s1, .int .i64 y1, .slice B1 k1x c1x, .bool t1] 71)) (ext_alloc _ (.cells #[.int .i64 x2, .slice A2 k2 c2, .bool s2, .int .i64 y2, .slice B2 k2x c2x, .bool t2] 71))
  have HQ1 := hide (show ∀ q, readFrac (bts a) = some q → RatIs _ _ q from fun q hq => (hq1 q hq).below hb1)
  have HQ2 := hide (show ∀ q, readFrac (bts b) = some q → RatIs _ _ q from fun q hq => (hq2 q hq).below hb1)
  have HW := hide (ext hW hb1)
  clear hq1 hq2 hW hb1 ht
  cases bb with
  | false =>
    have e0 : cmp2 (bts a) (bts b) = (0, 4) := by
      unfold cmp2
      cases ha : readFrac (bts a) with
      | none => rfl
      | some x =>
        cases hb : readFrac (bts b) with
        | none => rfl
        | some y => rw [ha, hb] at hbb; cases hbb
    have HR := hide e0
    clear hbb e0
    go_wp2_with fail
    go_ret2
    rw [HR.out]
    exact ⟨rfl, HW.out⟩
  | true =>
    obtain ⟨x, y, hx, hy⟩ := two_some hbb.symm
    have e0 : cmp2 (bts a) (bts b) = (cmpQ x y, 0) := by unfold cmp2; rw [hx, hy]
    have HR := hide e0
    have HX := hide hx
    have HY := hide hy
    clear hbb hx hy e0
    go_wp2_with fail
    refine (rat_cmp_any _ _ x y _ (HQ1.out x HX.out) (HQ2.out y HY.out) ((rlen_of HX.out).more (by omega)) ((rlen_of HY.out).more (by omega))).mono ?_
    rintro e w2 ⟨rfl, hb2⟩
    have HB2 := hide hb2
    clear hb2
    go_wp2_with fail
    go_ret2
    rw [HR.out]
    exact ⟨rfl, ext HW.out HB2.out⟩
set_option maxRecDepth 100000 in
theorem reckon_none (a b : ByteArray) (w : World) (ha : a.size ≤ 1073741824) (hb : b.size ≤ 1073741824) (hn : readFrac (bts a) = none) :
    Calls Tryz.prog 41 #[.string a, .string b, .func (.func 74) #[] #[]] w (RetT w (op2 (· / ·) (bts a) (bts b))) := by
  have ht := fun w => two_any a b w ha hb
  have e0 : op2 (· / ·) (bts a) (bts b) = ([], 4) := by unfold op2; rw [hn]
  rw [e0]
  have HN := hide hn
  clear e0 hn
  go_enter Tryz.func41, Tryz.ntmps41
  go_wp2_with fail
  refine (ht _).mono ?_
  rintro e w1 ⟨v1, v2, bb, rfl, ⟨x1, A1, k1, c1, s1, y1, B1, k1x, c1x, t1, rfl⟩, ⟨x2, A2, k2, c2, s2, y2, B2, k2x, c2x, t2, rfl⟩, hbb, hq1, hq2, hW⟩
  have hb1 := ext (ext_alloc w1 (.cells #[.int .i64 x1, .slice A1 k1 c1, .bool s1, .int .i64 y1, .slice B1 k1x c1x, .bool t1] 71)) (ext_alloc _ (.cells #[.int .i64 x2, .slice A2 k2 c2, .bool s2, .int .i64 y2, .slice B2 k2x c2x, .bool t2] 71))
  have HW := hide (ext hW hb1)
  rw [HN.out] at hbb
  obtain rfl : bb = false := hbb
  clear hq1 hq2 hW hb1 ht
  go_wp2_with fail
  go_ret2
  exact ⟨rfl, HW.out⟩
/-- a quotient of two texts, or its error -/
def div2 (la lb : List UInt8) : List UInt8 × Int := match readFrac la, readFrac lb with
  | some x, some y => if y = 0 then ([], 7) else toldOf (x / y)
  | _, _ => ([], 4)
theorem cmpQ_zero (q : Rat) : (cmpQ q 0 == 0) = decide (q = 0) := by
  unfold cmpQ
  by_cases h1 : q < 0
  · rw [if_pos h1, decide_eq_false (by grind)]; rfl
  · by_cases h2 : 0 < q
    · rw [if_neg h1, if_pos h2, decide_eq_false (by grind)]; rfl
    · rw [if_neg h1, if_neg h2, decide_eq_true (by grind)]; rfl
set_option maxRecDepth 100000 in
set_option maxHeartbeats 2000000 in
theorem Div_any (a b : ByteArray) (w : World) (ha : a.size ≤ 1073741824) (hb : b.size ≤ 1073741824) :
    Calls Tryz.prog 29 #[.string a, .string b] w (RetT w (div2 (bts a) (bts b))) := by
  have hrb := fun w => rational_any b w hb
  have hva := fun w => valid_any a w ha
  by_cases hz : ∃ x, readFrac (bts a) = some x ∧ readFrac (bts b) = some 0
  · obtain ⟨x, hx, hy⟩ := hz
    have e0 : div2 (bts a) (bts b) = ([], 7) := by unfold div2; rw [hx, hy]; simp
    rw [e0]
    simp only [hx, Option.isSome_some] at hva
    have HY := hide hy
    clear e0 hx hy
    go_enter Tryz.func29, Tryz.ntmps29
    go_wp2_with fail
    refine (hrb _).mono ?_
    rintro e w1 ⟨v, b', rfl, ⟨x1, A1, k1, c1, s1, y1, B1, k1x, c1x, t1, rfl⟩, hbb, hq, hW⟩
    rw [HY.out] at hbb
    obtain rfl : b' = true := hbb
    have hb1 := ext_alloc w1 (.cells #[.int .i64 x1, .slice A1 k1 c1, .bool s1, .int .i64 y1, .slice B1 k1x c1x, .bool t1] 71)
    have HQ := hide ((hq 0 HY.out).below hb1)
    have HW := hide (ext hW hb1)
    have kB := Blk.new w1 71 #[.int .i64 x1, .slice A1 k1 c1, .bool s1, .int .i64 y1, .slice B1 k1x c1x, .bool t1]
    have HK := hide kB
    clear hq hW hb1 hrb kB
    go_wp2_with fail
    refine (hva _).mono ?_
    rintro e w2 ⟨rfl, hb2⟩
    have kB2 := HK.out.below hb2 HK.out.lt
    have b0 := kB2.cell 0
    have b1 := kB2.cell 1
    have b2 := kB2.cell 2
    have b3 := kB2.cell 3
    have b4 := kB2.cell 4
    have b5 := kB2.cell 5
    simp at b0 b1 b2 b3 b4 b5
    have HQ2 := hide (HQ.out.below hb2)
    have HW2 := hide (ext HW.out hb2)
    clear hb2 kB2
    go_wp2_with fail
    refine (rat_sign_any _ 0 w2 HQ2.out).mono ?_
    rintro e w3 ⟨rfl, hb3⟩
    have e1 : (cmpQ 0 0 == 0) = true := by decide
    have HB3 := hide hb3
    clear hb3
    go_wp2_with fail
    go_ret2
    exact ⟨rfl, ext HW2.out HB3.out⟩
  · have h0 : ∀ x y, readFrac (bts a) = some x → readFrac (bts b) = some y → y ≠ 0 := fun x y hx hy e => hz ⟨x, hx, by rw [hy, e]⟩
    have e0 : div2 (bts a) (bts b) = op2 (· / ·) (bts a) (bts b) := by
      unfold div2 op2
      cases hx : readFrac (bts a) with
      | none => rfl
      | some x =>
        cases hy : readFrac (bts b) with
        | none => rfl
        | some y => simp only; rw [if_neg (h0 x y hx hy)]
    rw [e0]
    clear e0
    by_cases hva2 : (readFrac (bts a)).isSome = true
    · obtain ⟨x, hx⟩ := Option.isSome_iff_exists.1 hva2
      have hrk := fun w => reckon_div a b w ha hb (fun y hy => h0 x y hx hy)
      simp only [hva2] at hva
      have H0 := hide (fun y hy => h0 x y hx hy)
      clear h0 hx hva2 hz
      go_enter Tryz.func29, Tryz.ntmps29
      go_wp2_with fail
      refine (hrb _).mono ?_
      rintro e w1 ⟨v, b', rfl, ⟨x1, A1, k1, c1, s1, y1, B1, k1x, c1x, t1, rfl⟩, hbb, hq, hW⟩
      have hb1 := ext_alloc w1 (.cells #[.int .i64 x1, .slice A1 k1 c1, .bool s1, .int .i64 y1, .slice B1 k1x c1x, .bool t1] 71)
      have HW := hide (ext hW hb1)
      cases b' with
      | false =>
        clear hbb hq hW hb1 hrb hva
        go_wp2_with fail
        refine (hrk _).mono ?_
        rintro e w2 ⟨rfl, hb2⟩
        have HB2 := hide hb2
        clear hb2
        go_wp2_with fail
        go_ret2
        exact ⟨rfl, ext HW.out HB2.out⟩
      | true =>
        obtain ⟨y, hy⟩ := Option.isSome_iff_exists.1 hbb.symm
        have HQ := hide ((hq y hy).below hb1)
        have HY := hide (H0.out y hy)
        have kB := Blk.new w1 71 #[.int .i64 x1, .slice A1 k1 c1, .bool s1, .int .i64 y1, .slice B1 k1x c1x, .bool t1]
        have HK := hide kB
        clear hbb hq hW hb1 hrb kB hy
        go_wp2_with fail
        refine (hva _).mono ?_
        rintro e w2 ⟨rfl, hb2⟩
        have kB2 := HK.out.below hb2 HK.out.lt
        have b0 := kB2.cell 0
        have b1 := kB2.cell 1
        have b2 := kB2.cell 2
        have b3 := kB2.cell 3
        have b4 := kB2.cell 4
        have b5 := kB2.cell 5
        simp at b0 b1 b2 b3 b4 b5
        have HQ2 := hide (HQ.out.below hb2)
        have HW2 := hide (ext HW.out hb2)
        clear hb2 kB2
        go_wp2_with fail
        refine (rat_sign_any _ y w2 HQ2.out).mono ?_
        rintro e w3 ⟨rfl, hb3⟩
        have e1 : (cmpQ y 0 == 0) = false := by rw [cmpQ_zero, decide_eq_false HY.out]
        have HW3 := hide (ext HW2.out hb3)
        clear hb3
        go_wp2_with fail
        refine (hrk _).mono ?_
        rintro e w4 ⟨rfl, hb4⟩
        have HB4 := hide hb4
        clear hb4
        go_wp2_with fail
        go_ret2
        exact ⟨rfl, ext HW3.out HB4.out⟩
    · have hv0 : (readFrac (bts a)).isSome = false := by simpa using hva2
      have hnn : readFrac (bts a) = none := by simpa using hv0
      simp only [hv0] at hva
      have hrk : ∀ w, Calls Tryz.prog 41 #[.string a, .string b, .func (.func 74) #[] #[]] w (RetT w (op2 (· / ·) (bts a) (bts b))) := by
        intro w
        by_cases hb0 : ∀ y, readFrac (bts b) = some y → y ≠ 0
        · exact reckon_div a b w ha hb hb0
        · exact reckon_none a b w ha hb hnn
      clear h0 hz hva2 hv0 hnn
      go_enter Tryz.func29, Tryz.ntmps29
      go_wp2_with fail
      refine (hrb _).mono ?_
      rintro e w1 ⟨v, b', rfl, ⟨x1, A1, k1, c1, s1, y1, B1, k1x, c1x, t1, rfl⟩, hbb, hq, hW⟩
      have hb1 := ext_alloc w1 (.cells #[.int .i64 x1, .slice A1 k1 c1, .bool s1, .int .i64 y1, .slice B1 k1x c1x, .bool t1] 71)
      have HW := hide (ext hW hb1)
      clear hbb hq hW hb1 hrb
      cases b' with
      | false =>
        go_wp2_with fail
        refine (hrk _).mono ?_
        rintro e w2 ⟨rfl, hb2⟩
        have HB2 := hide hb2
        clear hb2
        go_wp2_with fail
        go_ret2
        exact ⟨rfl, ext HW.out HB2.out⟩
      | true =>
        go_wp2_with fail
        refine (hva _).mono ?_
        rintro e w2 ⟨rfl, hb2⟩
        have HW2 := hide (ext HW.out hb2)
        clear hb2
        go_wp2_with fail
        refine (hrk _).mono ?_
        rintro e w4 ⟨rfl, hb4⟩
        have HB4 := hide hb4
        clear hb4
        go_wp2_with fail
        go_ret2
        exact ⟨rfl, ext HW2.out HB4.out⟩
end Go.Proofs.YtdecgcdkaaiglaaGreat
namespace Go.Proofs.YtdecgcdkaaiglaaGreat
open Go.RowKit Go.Deep
attribute [local go_sem ↓] Go.wp_at_zero Go.wp_at_succ
set_option maxRecDepth 100000 in
set_option maxHeartbeats 4000000 in
theorem water_name (s : ByteArray) (w : World) (hs : s.size ≤ 1073741824) :
    Calls Tryz.prog 113 #[.string s] w (Ret1 w (.bool (isName (bts s)))) := by
  by_cases h0 : s.size = 0
  · have he : ((s.size : Int) < 1) := by omega
    have HN := hide (show isName (bts s) = false by unfold isName; rw [bts_length, h0]; rfl)
    clear h0
    go_enter Tryz.func113, Tryz.ntmps113
    go_wp2_with fail
    go_ret
    exact ⟨ret_bool HN.out, rfl⟩
  · have hp : 0 < s.size := by omega
    have hne := nonempty_of_size hp
    clear h0
    by_cases h16 : 16 < s.size
    · have HN := hide (show isName (bts s) = false by unfold isName; rw [bts_length, decide_eq_false (show ¬ s.size ≤ 16 by omega)]; simp)
      go_enter Tryz.func113, Tryz.ntmps113
      go_wp2_with fail
      go_ret
      exact ⟨ret_bool HN.out, rfl⟩
    · cases hl : isLow s[0] with
      | false =>
        have HN := hide (name_no1 hp hl)
        have hc : s[0].toNat < 97 ∨ 122 < s[0].toNat := by
          have : ¬ (97 ≤ s[0].toNat ∧ s[0].toNat ≤ 122) := by intro h; rw [isLow_iff.2 h] at hl; cases hl
          omega
        rcases hc with hc | hc
        · clear hl
          go_enter Tryz.func113, Tryz.ntmps113
          go_wp2_with fail
          go_ret
          exact ⟨ret_bool HN.out, rfl⟩
        · have hc2 : ¬ s[0].toNat < 97 := by omega
          clear hl
          go_enter Tryz.func113, Tryz.ntmps113
          go_wp2_with fail
          go_ret
          exact ⟨ret_bool HN.out, rfl⟩
      | true =>
        obtain ⟨hc1, hc2⟩ := isLow_iff.1 hl
        have hd1 : ¬ s[0].toNat < 97 := by omega
        have hd2 : ¬ 122 < s[0].toNat := by omega
        have HL := hide hl
        have H16 := hide (show s.size ≤ 16 by omega)
        clear hl hc1 hc2
        go_enter Tryz.func113, Tryz.ntmps113
        go_wp2_with fail
        go_loop [25] (fun iv => ∃ k : Nat, k ≤ s.size ∧ iv = .int .i64 k ∧ Hid (∀ j (h : j < s.size), j < k → isNameSign s[j] = true)) (fun iv => s.size - (intOf iv).toNat)
        case atStart => exact ⟨0, Nat.zero_le _, rfl, fun j _ h => by omega⟩
        case round =>
          obtain ⟨k, hk, rfl, HD⟩ := hrel
          clear hd1 hd2
          by_cases hlt : k < s.size
          · cases hd : isNameSign s[k] with
            | true =>
              have HD1 := hide hd
              have hnext : ∀ j (h : j < s.size), j < k + 1 → isNameSign s[j] = true := by
                intro j hj hlt2
                rcases Nat.lt_or_ge j k with h3 | h3
                · exact HD.out j hj h3
                · obtain rfl : j = k := by omega
                  exact HD1.out
              have HNX := hide hnext
              clear hnext
              rcases isSign_cases hd with ⟨h1, h2⟩ | ⟨h1, h2, h3⟩ | h1
              · clear hd
                go_wp2_with fail
                go_round
                case rel => exact ⟨k + 1, by omega, by go_num, HNX.out⟩
                case measure => simp [intOf]; omega
              · have h4 : ¬ 97 ≤ s[k].toNat := by omega
                clear hd h3
                go_wp2_with fail
                go_round
                case rel => exact ⟨k + 1, by omega, by go_num, HNX.out⟩
                case measure => simp [intOf]; omega
              · have h4 : ¬ 97 ≤ s[k].toNat := by omega
                have h5 : ¬ 48 ≤ s[k].toNat := by omega
                have h6 : ((s[k].toNat : Int) == 45) = true := by rw [h1]; rfl
                clear hd
                clear h1
                go_wp2_with fail
                go_round
                case rel => exact ⟨k + 1, by omega, by go_num, HNX.out⟩
                case measure => simp [intOf]; omega
            | false =>
              have HN := hide (name_no2 hlt hd)
              have h6 : ((s[k].toNat : Int) == 45) = false := by
                rw [beq_eq_false_iff_ne]
                have := noSign_cases hd
                omega
              rcases noSign_cases hd with ⟨h1, _⟩ | ⟨h1, h2⟩ | h1
              · have h4 : ¬ 97 ≤ s[k].toNat := by omega
                have h5 : ¬ 48 ≤ s[k].toNat := by omega
                clear hd
                go_wp2_with fail
                go_ret
                exact ⟨ret_bool HN.out, rfl⟩
              · have h4 : ¬ 97 ≤ s[k].toNat := by omega
                have h5 : 48 ≤ s[k].toNat := by omega
                have h7 : decide ((s[k].toNat : Int) ≤ 57) = false := by rw [decide_eq_false_iff_not]; omega
                clear hd
                go_wp2_with fail
                go_ret
                exact ⟨ret_bool HN.out, rfl⟩
              · have h4 : 97 ≤ s[k].toNat := by omega
                have h5 : 48 ≤ s[k].toNat := by omega
                have h7 : decide ((s[k].toNat : Int) ≤ 57) = false := by rw [decide_eq_false_iff_not]; omega
                have h8 : decide ((s[k].toNat : Int) ≤ 122) = false := by rw [decide_eq_false_iff_not]; omega
                clear hd
                go_wp2_with fail
                go_ret
                exact ⟨ret_bool HN.out, rfl⟩
          · obtain rfl : k = s.size := by omega
            have HN := hide (name_yes hp H16.out HL.out (fun j hj => HD.out j hj hj))
            go_wp2_with fail
            go_ret
            exact ⟨ret_bool HN.out, rfl⟩
theorem water_size (s : ByteArray) (w : World) (hs : s.size ≤ 1073741824) :
    Calls Tryz.prog 185 #[.string s] w (RetTrimP w s) := by
  have h := fun w => str_trimprefix s w hs
  clear hs
  go_enter Tryz.func185, Tryz.ntmps185
  go_wp2_with fail
  refine (h _).mono ?_
  rintro e w1 ⟨u, rfl, hu, rfl⟩
  have HU := hide hu
  clear h hu
  go_wp2_with fail
  go_ret
  exact ⟨u, rfl, HU.out, rfl⟩
/-- Too many digits, the program's way. -/
def longOf (l : List UInt8) : Bool := decide (12 < (ahead 47 (unsigned l)).length) || decide (12 < (if has 47 (unsigned l) = true then behind 47 (unsigned l) else []).length)
theorem longOf_frac {l : List UInt8} {q : Rat} (h : readFrac l = some q) : longOf l = !decide (Short 12 q) := by
  rw [ref_short_or]
  obtain ⟨h1, h2, h3, h4⟩ := frac_cut (readFrac_some.1 h).1
  unfold longOf
  rw [h2, h3]
  congr 1
  by_cases hd : q.den = 1
  · rw [hd, dec_one]; simp
  · rw [if_pos (by simpa using hd), h4 hd]
set_option maxRecDepth 100000 in
theorem water_long (s : ByteArray) (w : World) (hs : s.size ≤ 1073741824) :
    Calls Tryz.prog 165 #[.string s] w (RetB w (.bool (longOf (bts s)))) := by
  have h := fun w => water_size s w hs
  have HS := hide hs
  clear hs
  go_enter Tryz.func165, Tryz.ntmps165
  go_wp2_with fail
  refine (h _).mono ?_
  rintro e w1 ⟨u, rfl, hu, rfl⟩
  have hus : u.size ≤ 1073741824 := by
    have h2 : (unsigned (bts s)).length ≤ (bts s).length := by unfold unsigned; split <;> simp
    rw [← bts_length, hu]; rw [bts_length] at h2; have := HS.out; omega
  have hc := fun w => str_cut u 47 w hus
  have HU := hide hu
  clear h hu hus
  go_wp2_with fail
  refine (hc _).mono ?_
  rintro e w1 ⟨a, b, rfl, ha, hb, n, rfl⟩
  rw [HU.out] at ha hb
  have HL := hide (show longOf (bts s) = (decide (12 < a.size) || decide (12 < b.size)) by
    unfold longOf; rw [← ha, ← hb, bts_length, bts_length])
  have HW := hide (ext_drewN w n)
  clear hc ha hb
  by_cases h1 : 12 < a.size
  · have HL1 := hide (HL.out.trans (by rw [decide_eq_true h1]; rfl : _ = true))
    clear HL
    go_wp2_with fail
    go_ret
    exact ⟨ret_bool HL1.out, HW.out⟩
  · have HL1 := hide (show longOf (bts s) = (decide (12 < (a.size : Int)) || decide (12 < (b.size : Int))) by
      rw [HL.out]; congr 1 <;> (apply decide_eq_decide.2; omega))
    clear HL
    go_wp2_with fail
    go_ret
    exact ⟨ret_bool HL1.out, HW.out⟩
theorem numErr_way (l : List UInt8) : numErr l = if (readFrac l).isSome = false then 4 else if longOf l = true then 3 else 0 := by
  unfold numErr
  cases h : readFrac l with
  | none => rfl
  | some q =>
    rw [longOf_frac h]
    by_cases hs : Short 12 q <;> simp [hs]
set_option maxRecDepth 100000 in
theorem water_number (s : ByteArray) (w : World) (hs : s.size ≤ 1073741824) :
    Calls Tryz.prog 148 #[.string s] w (RetB w (.int .i64 (numErr (bts s)))) := by
  have h1 := fun w => valid_any s w hs
  have h2 := fun w => water_long s w hs
  have HN := hide (numErr_way (bts s))
  clear hs
  cases hv : (readFrac (bts s)).isSome with
  | false =>
    rw [hv] at h1
    have HE := hide (HN.out.trans (by rw [hv]; rfl : _ = (4 : Int)))
    clear hv HN
    go_enter Tryz.func148, Tryz.ntmps148
    go_wp2_with fail
    refine (h1 _).mono ?_
    rintro e w1 ⟨rfl, hb⟩
    have HB := hide hb
    clear h1 h2 hb
    go_wp2_with fail
    go_ret
    exact ⟨ret_i64' HE.out, HB.out⟩
  | true =>
    rw [hv] at h1
    cases hl : longOf (bts s) with
    | true =>
      rw [hl] at h2
      have HE := hide (HN.out.trans (by rw [hv, hl]; rfl : _ = (3 : Int)))
      clear hv HN hl
      go_enter Tryz.func148, Tryz.ntmps148
      go_wp2_with fail
      refine (h1 _).mono ?_
      rintro e w1 ⟨rfl, hb⟩
      have HB := hide hb
      clear h1 hb
      go_wp2_with fail
      refine (h2 _).mono ?_
      rintro e w2 ⟨rfl, hb⟩
      have HB2 := hide (ext HB.out hb)
      clear h2 hb
      go_wp2_with fail
      go_ret
      exact ⟨ret_i64' HE.out, HB2.out⟩
    | false =>
      rw [hl] at h2
      have HE := hide (HN.out.trans (by rw [hv, hl]; rfl : _ = (0 : Int)))
      clear hv HN hl
      go_enter Tryz.func148, Tryz.ntmps148
      go_wp2_with fail
      refine (h1 _).mono ?_
      rintro e w1 ⟨rfl, hb⟩
      have HB := hide hb
      clear h1 hb
      go_wp2_with fail
      refine (h2 _).mono ?_
      rintro e w2 ⟨rfl, hb⟩
      have HB2 := hide (ext HB.out hb)
      clear h2 hb
      go_wp2_with fail
      go_ret
      exact ⟨ret_i64' HE.out, HB2.out⟩
set_option maxRecDepth 100000 in
theorem water_less (a b : ByteArray) (w : World) (ha : a.size ≤ 1073741824) (hb : b.size ≤ 1073741824) :
    Calls Tryz.prog 149 #[.string a, .string b] w (RetB w (.bool (decide ((cmp2 (bts a) (bts b)).1 < 0)))) := by
  have h := fun w => Cmp_any a b w ha hb
  obtain ⟨r, hr⟩ : ∃ r, cmp2 (bts a) (bts b) = r := ⟨_, rfl⟩
  rw [hr] at h ⊢
  obtain ⟨r1, r2⟩ := r
  clear ha hb hr
  go_enter Tryz.func149, Tryz.ntmps149
  go_wp2_with fail
  refine (h _).mono ?_
  rintro e w1 ⟨rfl, hb⟩
  have HB := hide hb
  clear h hb
  go_wp2_with fail
  go_ret
  exact ⟨rfl, HB.out⟩
set_option maxRecDepth 100000 in
theorem water_plus (a b : ByteArray) (w : World) (ha : a.size ≤ 1073741824) (hb : b.size ≤ 1073741824) :
    Calls Tryz.prog 38 #[.string a, .string b] w (RetB w (str (op2 (· + ·) (bts a) (bts b)).1)) := by
  have h := fun w => Add_any a b w ha hb
  obtain ⟨r, hr⟩ : ∃ r, op2 (· + ·) (bts a) (bts b) = r := ⟨_, rfl⟩
  rw [hr] at h ⊢
  obtain ⟨r1, r2⟩ := r
  clear ha hb hr
  go_enter Tryz.func38, Tryz.ntmps38
  go_wp2_with fail
  refine (h _).mono ?_
  rintro e w1 ⟨rfl, hb⟩
  have HB := hide hb
  clear h hb
  go_wp2_with fail
  go_ret
  exact ⟨rfl, HB.out⟩
set_option maxRecDepth 100000 in
theorem water_minus (a b : ByteArray) (w : World) (ha : a.size ≤ 1073741824) (hb : b.size ≤ 1073741824) :
    Calls Tryz.prog 40 #[.string a, .string b] w (RetB w (str (op2 (· - ·) (bts a) (bts b)).1)) := by
  have h := fun w => Sub_any a b w ha hb
  obtain ⟨r, hr⟩ : ∃ r, op2 (· - ·) (bts a) (bts b) = r := ⟨_, rfl⟩
  rw [hr] at h ⊢
  obtain ⟨r1, r2⟩ := r
  clear ha hb hr
  go_enter Tryz.func40, Tryz.ntmps40
  go_wp2_with fail
  refine (h _).mono ?_
  rintro e w1 ⟨rfl, hb⟩
  have HB := hide hb
  clear h hb
  go_wp2_with fail
  go_ret
  exact ⟨rfl, HB.out⟩
set_option maxRecDepth 100000 in
theorem water_times (a b : ByteArray) (w : World) (ha : a.size ≤ 1073741824) (hb : b.size ≤ 1073741824) :
    Calls Tryz.prog 39 #[.string a, .string b] w (RetB w (str (op2 (· * ·) (bts a) (bts b)).1)) := by
  have h := fun w => Mul_any a b w ha hb
  obtain ⟨r, hr⟩ : ∃ r, op2 (· * ·) (bts a) (bts b) = r := ⟨_, rfl⟩
  rw [hr] at h ⊢
  obtain ⟨r1, r2⟩ := r
  clear ha hb hr
  go_enter Tryz.func39, Tryz.ntmps39
  go_wp2_with fail
  refine (h _).mono ?_
  rintro e w1 ⟨rfl, hb⟩
  have HB := hide hb
  clear h hb
  go_wp2_with fail
  go_ret
  exact ⟨rfl, HB.out⟩
set_option maxRecDepth 100000 in
theorem water_over (a b : ByteArray) (w : World) (ha : a.size ≤ 1073741824) (hb : b.size ≤ 1073741824) :
    Calls Tryz.prog 69 #[.string a, .string b] w (RetB w (str (div2 (bts a) (bts b)).1)) := by
  have h := fun w => Div_any a b w ha hb
  obtain ⟨r, hr⟩ : ∃ r, div2 (bts a) (bts b) = r := ⟨_, rfl⟩
  rw [hr] at h ⊢
  obtain ⟨r1, r2⟩ := r
  clear ha hb hr
  go_enter Tryz.func69, Tryz.ntmps69
  go_wp2_with fail
  refine (h _).mono ?_
  rintro e w1 ⟨rfl, hb⟩
  have HB := hide hb
  clear h hb
  go_wp2_with fail
  go_ret
  exact ⟨rfl, HB.out⟩
end Go.Proofs.YtdecgcdkaaiglaaGreat
namespace Go.Proofs.YtdecgcdkaaiglaaGreat
open Go.RowKit Go.Deep
attribute [local go_sem ↓] Go.wp_at_zero Go.wp_at_succ
def pipeCells (p : Pipe) : List Value := [str p.name, .int .i64 p.from_, .int .i64 p.to_, str p.low, str p.high]
def levelCells (v : Level) : List Value := [.int .i64 v.node, str v.value]
def pipesCells (l : List Pipe) : List Value := l.flatMap pipeCells
def levelsCells (l : List Level) : List Value := l.flatMap levelCells
/-- A text is not too long for the walks. -/
def SmallS (l : List UInt8) : Prop := l.length ≤ 1073741824
theorem levelsCells_length (l : List Level) : (levelsCells l).length = 2 * l.length := by
  induction l with
  | nil => rfl
  | cons v l ih => simp only [levelsCells, List.flatMap_cons, List.length_append, List.length_cons] at ih ⊢; rw [ih]; simp [levelCells]; omega
theorem pipesCells_length (l : List Pipe) : (pipesCells l).length = 5 * l.length := by
  induction l with
  | nil => rfl
  | cons v l ih => simp only [pipesCells, List.flatMap_cons, List.length_append, List.length_cons] at ih ⊢; rw [ih]; simp [pipeCells]; omega
theorem levelsCells_get {l : List Level} {k : Nat} (hk : k < l.length) : (levelsCells l)[2 * k]? = some (.int .i64 l[k].node) ∧ (levelsCells l)[2 * k + 1]? = some (str l[k].value) := by
  induction l generalizing k with
  | nil => simp at hk
  | cons v l ih =>
    cases k with
    | zero => simp [levelsCells, levelCells]
    | succ k =>
      have := ih (k := k) (by simpa using hk)
      have e : 2 * (k + 1) = 2 * k + 2 := by omega
      rw [e]
      simpa [levelsCells, levelCells] using this
theorem pipesCells_get {l : List Pipe} {k : Nat} (hk : k < l.length) : (pipesCells l)[5 * k]? = some (str l[k].name) ∧ (pipesCells l)[5 * k + 1]? = some (.int .i64 l[k].from_) ∧
    (pipesCells l)[5 * k + 2]? = some (.int .i64 l[k].to_) ∧ (pipesCells l)[5 * k + 3]? = some (str l[k].low) ∧ (pipesCells l)[5 * k + 4]? = some (str l[k].high) := by
  induction l generalizing k with
  | nil => simp at hk
  | cons v l ih =>
    cases k with
    | zero => simp [pipesCells, pipeCells]
    | succ k =>
      have := ih (k := k) (by simpa using hk)
      have e : 5 * (k + 1) = 5 * k + 5 := by omega
      rw [e]
      simpa [pipesCells, pipeCells] using this
/-- A list of levels in memory. -/
def LevelsIs (w : World) (v : Value) (l : List Level) : Prop :=
  ∃ A c, v = .slice A l.length c ∧ l.length ≤ c ∧ c ≤ maxLen ∧ l.length ≤ 1000 ∧ Reads w w.heap.size 2 A l.length (levelsCells l) ∧ ∀ x ∈ l, SmallS x.value
def PipesIs (w : World) (v : Value) (l : List Pipe) : Prop :=
  ∃ A c, v = .slice A l.length c ∧ l.length ≤ c ∧ c ≤ maxLen ∧ l.length ≤ 1000 ∧ Reads w w.heap.size 5 A l.length (pipesCells l) ∧ ∀ x ∈ l, SmallS x.name ∧ SmallS x.low ∧ SmallS x.high
def NodesIs (w : World) (v : Value) (l : List (List UInt8)) : Prop :=
  ∃ A c, v = .slice A l.length c ∧ l.length ≤ c ∧ c ≤ maxLen ∧ l.length ≤ 1000 ∧ Reads w w.heap.size 1 A l.length (l.map str) ∧ ∀ x ∈ l, SmallS x
/-- A net in memory. -/
def NetIs (w : World) (v : Value) (n : Net) : Prop :=
  ∃ A0 k0 c0 A1 k1 c1 A2 k2 c2 A3 k3 c3, v = .agg #[.slice A0 k0 c0, .slice A1 k1 c1, .slice A2 k2 c2, .slice A3 k3 c3] ∧
    NodesIs w (.slice A0 k0 c0) n.nodes ∧ PipesIs w (.slice A1 k1 c1) n.pipes ∧ LevelsIs w (.slice A2 k2 c2) n.heads ∧ LevelsIs w (.slice A3 k3 c3) n.wells
theorem LevelsIs.below {w w' : World} {v : Value} {l : List Level} (h : LevelsIs w v l) (hb : Below w.heap.size w w') : LevelsIs w' v l := by
  obtain ⟨A, c, h1, h2, h3, h6, h4, h5⟩ := h
  exact ⟨A, c, h1, h2, h3, h6, (h4.below hb).more hb.size, h5⟩
theorem PipesIs.below {w w' : World} {v : Value} {l : List Pipe} (h : PipesIs w v l) (hb : Below w.heap.size w w') : PipesIs w' v l := by
  obtain ⟨A, c, h1, h2, h3, h6, h4, h5⟩ := h
  exact ⟨A, c, h1, h2, h3, h6, (h4.below hb).more hb.size, h5⟩
theorem NodesIs.below {w w' : World} {v : Value} {l : List (List UInt8)} (h : NodesIs w v l) (hb : Below w.heap.size w w') : NodesIs w' v l := by
  obtain ⟨A, c, h1, h2, h3, h6, h4, h5⟩ := h
  exact ⟨A, c, h1, h2, h3, h6, (h4.below hb).more hb.size, h5⟩
theorem NetIs.below {w w' : World} {v : Value} {n : Net} (h : NetIs w v n) (hb : Below w.heap.size w w') : NetIs w' v n := by
  obtain ⟨A0, k0, c0, A1, k1, c1, A2, k2, c2, A3, k3, c3, h, h0, h1, h2, h3⟩ := h
  exact ⟨A0, k0, c0, A1, k1, c1, A2, k2, c2, A3, k3, c3, h, h0.below hb, h1.below hb, h2.below hb, h3.below hb⟩
theorem addr_field (ad : Addr) (i j : Nat) : (⟨(ad.add i).block, (ad.add i).off + (j + 1), none⟩ : Addr) = ad.add (i + (j + 1)) := by
  unfold Addr.add
  by_cases h : i = 0
  · subst h; simp
  · rw [if_neg h, if_neg (by omega)]; simp [Nat.add_assoc]
end Go.Proofs.YtdecgcdkaaiglaaGreat
namespace Go.Proofs.YtdecgcdkaaiglaaGreat
open Go.RowKit Go.Deep
attribute [local go_sem ↓] Go.wp_at_zero Go.wp_at_succ
theorem LevelsIs.at_ {w : World} {A : Option Addr} {n c : Nat} {l : List Level} (h : LevelsIs w (.slice A n c) l) {k : Nat} (hk : k < l.length) :
    ∃ ad, A = some ad ∧ ad.block < w.heap.size ∧ w.cell? (ad.add (k * 2)) = some (.int .i64 l[k].node) ∧ w.cell? ⟨(ad.add (k * 2)).block, (ad.add (k * 2)).off + 1, none⟩ = some (str l[k].value) := by
  obtain ⟨A', c', e, h2, h3, _, h4, h5⟩ := h
  injection e with e1 e2 e3
  subst e1 e2 e3
  obtain ⟨ad, rfl, hb, hc⟩ := h4.2 (by omega)
  obtain ⟨g1, g2⟩ := levelsCells_get hk
  rw [Nat.mul_comm] at g1 g2
  exact ⟨ad, rfl, hb, hc _ _ g1, by rw [addr_field ad (k * 2) 0]; exact hc _ _ g2⟩
theorem find_first {l : List Level} {z : Int} {k : Nat} (hk : k < l.length) (h : ∀ j (hj : j < l.length), j < k → l[j].node ≠ z) (hz : l[k].node = z) : l.find? (fun v => v.node == z) = some l[k] := by
  rw [List.find?_eq_some_iff_getElem]
  refine ⟨by simpa using hz, k, hk, rfl, ?_⟩
  intro j hj
  have := h j (by omega) hj
  simpa using this
theorem find_none {l : List Level} {z : Int} (h : ∀ j (hj : j < l.length), l[j].node ≠ z) : l.find? (fun v => v.node == z) = none := by
  rw [List.find?_eq_none]
  intro x hx
  obtain ⟨j, hj, rfl⟩ := List.mem_iff_getElem.1 hx
  simpa using h j hj
end Go.Proofs.YtdecgcdkaaiglaaGreat
namespace Go.Proofs.YtdecgcdkaaiglaaGreat
open Go.RowKit Go.Deep
attribute [local go_sem ↓] Go.wp_at_zero Go.wp_at_succ
theorem levelErr_get (n : Net) {l : List Level} {k : Nat} (hk : k < l.length) : n.levelErr l k = (if (decide (0 ≤ l[k].node) && decide (l[k].node < (n.nodes.length : Int))) = false then 7 else if l[k].node ∈ (l.take k).map (·.node) then 6 else numErr l[k].value) := by
  unfold Net.levelErr
  have e : l.getD k default = l[k] := by simp [List.getD, List.getElem?_eq_getElem hk]
  rw [e]
  have h : (l[k].node < 0 ∨ (n.nodes.length : Int) ≤ l[k].node) ↔ (decide (0 ≤ l[k].node) && decide (l[k].node < (n.nodes.length : Int))) = false := by
    rw [Bool.and_eq_false_iff, decide_eq_false_iff_not, decide_eq_false_iff_not]; omega
  simp only [h]
end Go.Proofs.YtdecgcdkaaiglaaGreat
namespace Go.Proofs.YtdecgcdkaaiglaaGreat
open Go.RowKit Go.Deep
attribute [local go_sem ↓] Go.wp_at_zero Go.wp_at_succ
theorem PipesIs.at_ {w : World} {A : Option Addr} {n c : Nat} {l : List Pipe} (h : PipesIs w (.slice A n c) l) {k : Nat} (hk : k < l.length) :
    ∃ ad, A = some ad ∧ ad.block < w.heap.size ∧ w.cell? (ad.add (k * 5)) = some (str l[k].name) ∧ w.cell? ⟨(ad.add (k * 5)).block, (ad.add (k * 5)).off + 1, none⟩ = some (.int .i64 l[k].from_) ∧
      w.cell? ⟨(ad.add (k * 5)).block, (ad.add (k * 5)).off + 2, none⟩ = some (.int .i64 l[k].to_) ∧ w.cell? ⟨(ad.add (k * 5)).block, (ad.add (k * 5)).off + 3, none⟩ = some (str l[k].low) ∧
      w.cell? ⟨(ad.add (k * 5)).block, (ad.add (k * 5)).off + 4, none⟩ = some (str l[k].high) := by
  obtain ⟨A', c', e, h2, h3, _, h4, h5⟩ := h
  injection e with e1 e2 e3
  subst e1 e2 e3
  obtain ⟨ad, rfl, hb, hc⟩ := h4.2 (by omega)
  obtain ⟨g1, g2, g3, g4, g5⟩ := pipesCells_get hk
  rw [Nat.mul_comm] at g1 g2 g3 g4 g5
  exact ⟨ad, rfl, hb, hc _ _ g1, by rw [addr_field ad (k * 5) 0]; exact hc _ _ g2, by rw [addr_field ad (k * 5) 1]; exact hc _ _ g3, by rw [addr_field ad (k * 5) 2]; exact hc _ _ g4, by rw [addr_field ad (k * 5) 3]; exact hc _ _ g5⟩
theorem pipeErr_get (n : Net) {k : Nat} (hk : k < n.pipes.length) : n.pipeErr k =
    if isName n.pipes[k].name = false then 5
    else if n.pipes[k].name ∈ (n.pipes.take k).map (·.name) then 6
    else if (decide (0 ≤ n.pipes[k].from_) && decide (n.pipes[k].from_ < (n.nodes.length : Int))) = false ∨ (decide (0 ≤ n.pipes[k].to_) && decide (n.pipes[k].to_ < (n.nodes.length : Int))) = false then 7
    else if n.pipes[k].from_ = n.pipes[k].to_ then 1
    else if numErr n.pipes[k].low ≠ 0 then numErr n.pipes[k].low
    else if numErr n.pipes[k].high ≠ 0 then numErr n.pipes[k].high
    else if numOf n.pipes[k].low ≤ 0 ∨ numOf n.pipes[k].high < numOf n.pipes[k].low then 1 else 0 := by
  unfold Net.pipeErr
  have e : n.pipes.getD k default = n.pipes[k] := by simp [List.getD, List.getElem?_eq_getElem hk]
  simp only [e]
  have h : (n.pipes[k].from_ < 0 ∨ (n.nodes.length : Int) ≤ n.pipes[k].from_ ∨ n.pipes[k].to_ < 0 ∨ (n.nodes.length : Int) ≤ n.pipes[k].to_) ↔
      ((decide (0 ≤ n.pipes[k].from_) && decide (n.pipes[k].from_ < (n.nodes.length : Int))) = false ∨ (decide (0 ≤ n.pipes[k].to_) && decide (n.pipes[k].to_ < (n.nodes.length : Int))) = false) := by
    rw [Bool.and_eq_false_iff, Bool.and_eq_false_iff, decide_eq_false_iff_not, decide_eq_false_iff_not, decide_eq_false_iff_not, decide_eq_false_iff_not]; omega
  simp only [h]
end Go.Proofs.YtdecgcdkaaiglaaGreat
namespace Go.Proofs.YtdecgcdkaaiglaaGreat
def txt (A : Tab) : Nat → Nat → List UInt8 := fun i c => fracText (A i c)
theorem fracText_zero_iff {q : Rat} : fracText q = [48] ↔ q = 0 := by
  have h0 : fracText 0 = [48] := by unfold fracText; simp [dec_zero]
  constructor
  · intro h; exact fracText_inj (h.trans h0.symm)
  · intro h; rw [h, h0]
/-- Elimination on the way: k columns done; nothing behind column m; bounds. -/
def Elim (m : Nat) (A0 : Tab) (E k : Nat) (A : Tab) : Prop := Stage m A0 k A (10 ^ (E * 2 ^ k)) ∧ ∀ i c, m < c → A i c = 0
theorem Elim.swapped {m E k p : Nat} {A0 A : Tab} (h : Elim m A0 E k A) (hk : k ≤ p) (hp : p < m) : Elim m A0 E k (swapped A k p) := by
  refine ⟨h.1.swapped hk hp, fun i c hc => ?_⟩
  unfold Go.Proofs.YtdecgcdkaaiglaaGreat.swapped
  split
  · exact h.2 _ _ hc
  · split
    · exact h.2 _ _ hc
    · exact h.2 _ _ hc
theorem Elim.freed {m E k : Nat} {A0 A : Tab} (h : Elim m A0 E k A) (hk : k < m) (h0 : A k k ≠ 0) : Elim m A0 E (k + 1) (freed A k m) := by
  refine ⟨?_, fun i c hc => ?_⟩
  · have := h.1.freed hk h0
    rw [← Nat.pow_add] at this
    rw [show E * 2 ^ (k + 1) = E * 2 ^ k + E * 2 ^ k by rw [Nat.pow_succ, ← Nat.mul_assoc]; omega]
    exact this
  · unfold Go.Proofs.YtdecgcdkaaiglaaGreat.freed
    split
    · rw [h.2 _ _ hc, h.2 _ _ hc]; grind
    · exact h.2 _ _ hc
/-- Row i is being freed of column k: its columns from k on and ahead of c are done. -/
def part (A : Tab) (k i c : Nat) : Tab := fun i' c' => if i' = i ∧ k ≤ c' ∧ c' < c then A i c' - A i k / A k k * A k c' else freed A k i i' c'
theorem part_start (A : Tab) (k i : Nat) : part A k i k = freed A k i := by
  funext i' c'
  unfold part
  rw [if_neg (by omega)]
theorem part_row {A : Tab} {k i c c' : Nat} (hc : c ≤ c') : part A k i c i c' = A i c' := by
  unfold part
  rw [if_neg (by omega)]
  unfold freed
  rw [if_neg (by omega)]
theorem part_k {A : Tab} {k i c c' : Nat} (hi : i ≠ k) : part A k i c k c' = A k c' := by
  unfold part
  rw [if_neg (by omega)]
  unfold freed
  rw [if_neg (by omega)]
theorem part_upd {A : Tab} {k i c : Nat} (hc : k ≤ c) : (fun i' c' => if i' = i ∧ c' = c then A i c - A i k / A k k * A k c else part A k i c i' c') = part A k i (c + 1) := by
  funext i' c'
  unfold part
  by_cases h1 : i' = i ∧ c' = c
  · rw [if_pos h1, if_pos (by omega), h1.2]
  · rw [if_neg h1]
    by_cases h2 : i' = i ∧ k ≤ c' ∧ c' < c
    · rw [if_pos h2, if_pos (by omega)]
    · rw [if_neg h2, if_neg (by omega)]
theorem part_done {m E k i : Nat} {A0 A : Tab} (h : Elim m A0 E k A) (hk : k < m) (hi : i ≠ k) : part A k i (m + 1) = freed A k (i + 1) := by
  funext i' c'
  unfold part freed
  by_cases h1 : i' = i
  · subst h1
    by_cases h2 : k ≤ c' ∧ c' < m + 1
    · rw [if_pos ⟨rfl, h2⟩, if_pos ⟨by omega, hi⟩]
    · rw [if_neg (fun h3 => h2 h3.2), if_neg (by omega), if_pos ⟨by omega, hi⟩]
      have h0 : A k c' = 0 := by
        rcases Nat.lt_or_ge c' k with h4 | h4
        · exact (h.1.2.1 c' h4).2 k hk (by omega)
        · exact h.2 _ _ (by omega)
      rw [h0]; grind
  · rw [if_neg (fun h3 => h1 h3.1)]
    by_cases h3 : i' < i ∧ i' ≠ k
    · rw [if_pos h3, if_pos (by omega)]
    · rw [if_neg h3, if_neg (by omega)]
theorem freed_skip {A : Tab} {k i : Nat} (h : i = k ∨ A i k = 0) : freed A k (i + 1) = freed A k i := by
  funext i' c'
  unfold freed
  by_cases h1 : i' = i
  · subst h1
    rw [if_neg (by omega : ¬ (i' < i' ∧ i' ≠ k))]
    by_cases h2 : i' = k
    · rw [if_neg (by omega)]
    · rw [if_pos (by omega)]
      rcases h with h | h
      · exact absurd h h2
      · rw [h]; grind
  · by_cases h3 : i' < i ∧ i' ≠ k
    · rw [if_pos h3, if_pos (by omega)]
    · rw [if_neg h3, if_neg (by omega)]
theorem freed_zero (A : Tab) (k : Nat) : freed A k 0 = A := by
  funext i' c'
  unfold freed
  rw [if_neg (by omega)]
theorem freed_row {A : Tab} {k i : Nat} : freed A k i i = A i := freed_keep i (by omega)
theorem freed_krow {A : Tab} {k i : Nat} : freed A k i k = A k := freed_keep k (by omega)
theorem pow_dbl (E k : Nat) : 10 ^ (E * 2 ^ k) * 10 ^ (E * 2 ^ k) = 10 ^ (E * 2 ^ (k + 1)) := by
  rw [← Nat.pow_add]
  congr 1
  rw [Nat.pow_succ, ← Nat.mul_assoc]; omega
theorem dbl_le {E k m B : Nat} (hk : k ≤ m) (h : E * 2 ^ m ≤ B) : E * 2 ^ k ≤ B := Nat.le_trans (Nat.mul_le_mul (Nat.le_refl _) (Nat.pow_le_pow_right (by omega) hk)) h
/-- the bounds of the numbers -/
theorem Elim.short {m E k : Nat} {A0 A : Tab} (h : Elim m A0 E k A) (hk : k ≤ m) (hE : E * 2 ^ m ≤ 49999) {i c : Nat} (hi : i < m) (hc : c ≤ m) : Short 50000 (A i c) :=
  Dz.short (h.1.2.2.1.sz hi hc) (by have := dbl_le hk hE; omega)
theorem Elim.quot {m E k : Nat} {A0 A : Tab} (h : Elim m A0 E k A) (hk : k < m) (hE : E * 2 ^ m ≤ 49999) {i c : Nat} (hi : i < m) (hc : c ≤ m) (h0 : A k k ≠ 0) : Short 50000 (A i c / A k k) := by
  have h1 := h.1.2.2.1.quot hi hk hc h0
  rw [pow_dbl] at h1
  exact Dz.short h1 (by have := dbl_le (show k + 1 ≤ m by omega) hE; omega)
theorem Elim.prod {m E k : Nat} {A0 A : Tab} (h : Elim m A0 E k A) (hk : k < m) (hE : E * 2 ^ m ≤ 49999) {i c : Nat} (hi : i < m) (hc : c ≤ m) (h0 : A k k ≠ 0) : Short 50000 (A i k / A k k * A k c) := by
  have h1 := h.1.2.2.1.prod hi hk hc h0
  rw [pow_dbl] at h1
  exact Dz.short h1 (by have := dbl_le (show k + 1 ≤ m by omega) hE; omega)
theorem Elim.diff {m E k : Nat} {A0 A : Tab} (h : Elim m A0 E k A) (hk : k < m) (hE : E * 2 ^ m ≤ 49999) {i c : Nat} (hi : i < m) (hik : i ≠ k) (hc : c ≤ m) (h0 : A k k ≠ 0) : Short 50000 (A i c - A i k / A k k * A k c) := by
  have h1 := (h.freed hk h0).short (by omega) hE hi hc
  unfold Go.Proofs.YtdecgcdkaaiglaaGreat.freed at h1
  rw [if_pos ⟨hi, hik⟩] at h1
  exact h1
theorem Elim.answer {m E : Nat} {A0 A : Tab} (h : Elim m A0 E m A) (hE : E * 2 ^ m ≤ 49999) {i : Nat} (hi : i < m) : Short 50000 (A i m / A i i) := by
  obtain ⟨t, h1, h2, h3⟩ := h.1.2.2.1.diag hi (h.1.2.1 i hi).1
  exact Dz.short (h3.sz h1 (Nat.le_refl _) h2) (by omega)
theorem op2_txt {f : Rat → Rat → Rat} {x y : Rat} (hx : Short 50000 x) (hy : Short 50000 y) (h : Short 50000 (f x y)) : (op2 f (fracText x) (fracText y)).1 = fracText (f x y) := by
  rw [op2_yes (readFrac_text hx) (readFrac_text hy)]
  unfold toldOf
  rw [if_pos h]
theorem div2_txt {x y : Rat} (hx : Short 50000 x) (hy : Short 50000 y) (h0 : y ≠ 0) (h : Short 50000 (x / y)) : (div2 (fracText x) (fracText y)).1 = fracText (x / y) := by
  unfold div2
  rw [readFrac_text hx, readFrac_text hy]
  simp only
  rw [if_neg h0]
  unfold toldOf
  rw [if_pos h]
end Go.Proofs.YtdecgcdkaaiglaaGreat
