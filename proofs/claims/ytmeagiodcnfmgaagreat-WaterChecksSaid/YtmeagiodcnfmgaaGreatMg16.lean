/- The walks of the reference's texts (4): a text as number. PRI42ED by gen_ref10.py. · The walks of the reference's numbers (5): Times, Over. PRINTED by gen_ref11.py. · The walks of the reference's numbers (6): Minus, Sign. · The walks of the reference's numbers (7): Plus. PRINTED by gen_ref13.py. · The walks of the reference's numbers (8): Order. PRINTED by gen_ref14.py. · The walks of the reference's numbers (9): long, entered, Line of a number alone, must. · The walks of the reference's numbers (10): must; names. · The walks of the reference's numbers (11): Of 0. -/
import Derived.Below
import Derived.BigQuiet
import Derived.BigRegion
import Derived.Deep.AppendLies
import Derived.Deep.CutBlock
import Derived.Deep.DeepCutAuto
import Derived.Deep.DeepMust
import Derived.Deep.DrawnRows
import Derived.Deep.Draws
import Derived.Deep.OwnRows
import Derived.Deep.QuietTactic
import Derived.Deep.RegionHeld3
import Derived.Deep.RegionLawGrows
import Derived.Deep.RegionWith
import Derived.IntWalk
import Derived.Laws.BitsAllLaws
import Derived.Laws.MathBits
import Derived.Laws.OwnMore
import Derived.Laws.Rows
import Derived.Lib.BitFns
import Derived.Lib.Bytealg
import Derived.Lib.Index
import Derived.Lib.Slices
import Derived.Lib.Small
import Derived.Lib.Strings
import Derived.Lib.Walk
import Derived.LoopN
import Derived.Maps.AppendAt
import Derived.OwnWalk
import Derived.RegionTactic
import Derived.StillTailTactics
import Derived.WalkKit
import Derived.WalkLawsBesides
import Derived.WalkSpells
import Init.Data.List.Lemmas
import Derived.Test.YtmeagiodcnfmgaaGreatMg15
import Derived.Test.YtmeagiodcnfmgaaGreatMg01
set_option linter.unusedVariables false
set_option linter.unusedSimpArgs false
namespace Go.Proofs.YtmeagiodcnfmgaaGreat
open Go.RowKit Go.Deep
attribute [local go_sem ↓] Go.wp_at_zero Go.wp_at_succ
/-- Block g holds a number of the reference. -/
def RefRes (w : World) (g : Nat) : Prop := ∃ (ng : Bool) (A : Option Addr) (n c : Nat) (B : Option Addr) (m d : Nat), Blk w g 42 #[.bool ng, .slice A n c, .slice B m d]
theorem hid_rres {w w' : World} {g : Nat} (hb : Below w.heap.size w w') (h : Hid (RefRes w g)) : Hid (RefRes w' g) := by
  obtain ⟨ng, A, n, c, B, m, d, h⟩ := h.out
  exact ⟨ng, A, n, c, B, m, d, h.below hb h.lt⟩
theorem hid_siz {w w' : World} {v : Value} {n : Nat} (hb : Below w.heap.size w w') (h : Hid (SizIs w v n)) : Hid (SizIs w' v n) := SizIs.below h.out hb
section
variable {W w0 : World} {g g' i n c m d k : Nat} {ng : Bool} {A B : Option Addr} {v : Value}
theorem hid_rres_ref (h : Hid (RefRes W g)) : Hid (RefRes (World.ref W g ng A n c B m d) g) := by
  obtain ⟨ng, A, n, c, B, m, d, h⟩ := h.out
  exact ⟨_, _, _, _, _, _, _, ref_blk h⟩
theorem hid_below_ref (hg : w0.heap.size ≤ g) (h : Hid (Below w0.heap.size w0 W)) : Hid (Below w0.heap.size w0 (World.ref W g ng A n c B m d)) := ref_below h.out hg
theorem hid_siz_ref (hr : Hid (RefRes W g)) (h : Hid (SizIs W v k)) : Hid (SizIs (World.ref W g ng A n c B m d) v k) := by
  obtain ⟨ng, A, n, c, B, m, d, hr⟩ := hr.out
  exact ref_stored h.out hr
theorem ref_cell (hne : g ≠ g') (h : W.cell? ⟨g, i, none⟩ = some v) : (World.ref W g' ng A n c B m d).cell? ⟨g, i, none⟩ = some v := by
  rw [← h]
  simp only [World.ref]
  rw [World.cell?_setCell_other, World.cell?_setCell_other, World.cell?_setCell_other]
  all_goals (intro e; injection e with e; exact hne e.symm)
theorem ref_hsize (h : k < W.heap.size) : k < (World.ref W g' ng A n c B m d).heap.size := by
  simp only [World.ref, World.setCell, Array.size_modify]
  exact h
end
/-- A value of the form of a number of the reference. -/
def AggN (v : Value) : Prop := ∃ (ng : Bool) (A : Option Addr) (n c : Nat) (B : Option Addr) (m d : Nat), v = .agg #[.bool ng, .slice A n c, .slice B m d]
/-- A call gives the number of a text, and whether it is one. -/
def RetNum (w : World) (l : List UInt8) (e : Ending) (w' : World) : Prop :=
  ∃ v b, e = .returned (.tuple #[v, .bool b]) ∧ AggN v ∧ b = (readFrac l).isSome ∧ (∀ q, readFrac l = some q → RefIs w' v q) ∧ Below w.heap.size w w'
theorem RetNum.no {w w' : World} {l : List UInt8} {v : Value} (h : readFrac l = none) (hv : AggN v) (hb : Below w.heap.size w w') : RetNum w l (.returned (.tuple #[v, .bool false])) w' :=
  ⟨v, false, rfl, hv, by rw [h]; rfl, fun q hq => (by rw [h] at hq; cases hq), hb⟩
theorem RetNum.maybe {w w' : World} {l : List UInt8} {v : Value} {q : Rat} {b : Bool} (h : readFrac l = if fracText q = l then some q else none) (hb' : b = decide (fracText q = l)) (hv : RefIs w' v q) (hb : Below w.heap.size w w') :
    RetNum w l (.returned (.tuple #[v, .bool b])) w' := by
  subst hb'
  by_cases he : fracText q = l
  · rw [if_pos he] at h
    refine ⟨v, _, rfl, ?_, by rw [h, decide_eq_true he]; rfl, fun q' hq => ?_, hb⟩
    · obtain ⟨ng, A, n, c, B, m, d, rfl, _⟩ := hv; exact ⟨_, _, _, _, _, _, _, rfl⟩
    · rw [h] at hq; injection hq with hq; rw [← hq]; exact hv
  · rw [if_neg he] at h
    rw [decide_eq_false he]
    refine RetNum.no h ?_ hb
    obtain ⟨ng, A, n, c, B, m, d, rfl, _⟩ := hv; exact ⟨_, _, _, _, _, _, _, rfl⟩
theorem ratOf_nlen {ng : Bool} {n d M : Nat} (hd : 0 < d) (h1 : len 1000000000 n ≤ M) (h2 : len 1000000000 d ≤ M) : NLen M (ratOf ng n d) := by
  obtain ⟨e1, e2, _⟩ := low_parts ng n d hd
  unfold NLen
  rw [e1, e2]
  exact ⟨Nat.le_trans (len_mono (by omega) (Nat.div_le_self _ _)) h1, Nat.le_trans (len_mono (by omega) (Nat.div_le_self _ _)) h2⟩
theorem sz_dec' {l : List UInt8} {K : Nat} (h : isDigs l = true) (hl : l.length ≤ K) : len 1000000000 (decVal l) ≤ K := by
  unfold isDigs at h
  rw [Bool.and_eq_true] at h
  have h1 := decVal_lt h.1
  refine len_le_of_lt (by omega) (Nat.lt_of_lt_of_le h1 ?_)
  exact Nat.le_trans (Nat.pow_le_pow_left (by decide : 10 ≤ 1000000000) _) (Nat.pow_le_pow_right (by decide) hl)
theorem sz_dec {l : List UInt8} (h : isDigs l = true) (hl : l.length ≤ 50000) : len 1000000000 (decVal l) ≤ 50000 := sz_dec' h hl
theorem beq_bts (l : List UInt8) (s : ByteArray) : (l == s.toList) = decide (l = bts s) := by
  rw [Lib.toList_data]
  show (l == bts s) = _
  by_cases h : l = bts s
  · rw [decide_eq_true h]; exact beq_iff_eq.2 h
  · rw [decide_eq_false h]; exact beq_eq_false_iff_ne.2 h
theorem isDigs_all {l : List UInt8} (h : isDigs l = true) : l.all isDig = true := by
  unfold isDigs at h; rw [Bool.and_eq_true] at h; exact h.1
set_option maxRecDepth 100000 in
set_option maxHeartbeats 16000000 in
theorem ref_number (s : ByteArray) (w : World) (hs : s.size ≤ 1073741824) :
    Calls Tryz.prog 48 #[.string s] w (RetNum w (bts s)) := by
  have HWR := hide (ext_alloc w (.cells #[.bool false, .slice none 0 0, .slice none 0 0] 42))
  have HKR := hide (Blk.new w 42 #[.bool false, .slice none 0 0, .slice none 0 0])
  by_cases hlong : 100002 < s.size
  · have HP := hide (numb_long (l := bts s) (by rw [bts_length]; exact hlong))
    have hlI : decide (100002 < (s.size : Int)) = true := by rw [decide_eq_true_eq]; omega
    clear hlong
    go_enter Tryz.func48, Tryz.ntmps48
    go_wp2_with fail
    have kR2 := ref_blk (ng := false) (A := none) (n := 0) (c := 0) (B := none) (m := 0) (d := 0) HKR.out
    have e0 := kR2.cell 0
    have e1 := kR2.cell 1
    have e2 := kR2.cell 2
    simp only [World.ref] at e0 e1 e2
    simp at e0 e1 e2
    refine bodyPost_ret (v := .tuple #[.agg #[.bool false, .slice none 0 0, .slice none 0 0], .bool false]) (by simp [results, Tryz.results48, go_sem, e0, e1, e2]) rfl ?_
    first
    | exact RetNum.no HP.out ⟨_, _, _, _, _, _, _, rfl⟩ HWR.out
    | exact RetNum.no HP.out ⟨_, _, _, _, _, _, _, rfl⟩ (ref_below (g := w.heap.size) (ng := false) (A := none) (n := 0) (c := 0) (B := none) (m := 0) (d := 0) HWR.out (Nat.le_refl _))
  · have HLS := hide (show s.size ≤ 100002 by omega)
    have hlI : decide (100002 < (s.size : Int)) = false := by rw [decide_eq_false_iff_not]; omega
    clear hlong
    obtain ⟨ng, t, HN, HT, HTS, hcase⟩ : ∃ (ng : Bool) (t : ByteArray), Hid (ng = signOf (bts s)) ∧ Hid (bts t = unsigned (bts s)) ∧ Hid (t.size ≤ 1073741824) ∧
        ((s.toList.isEmpty = true ∧ ng = false ∧ s = t) ∨ (∃ h : 0 < s.size, ((s[0].toNat : Int) == 45) = false ∧ ng = false ∧ s = t ∧ s.toList.isEmpty = false) ∨ (∃ h : 0 < s.size, ((s[0].toNat : Int) == 45) = true ∧ ng = true ∧ t = s.extract 1 s.size ∧ s.toList.isEmpty = false)) := by
      by_cases h0 : 0 < s.size
      · have hne : s.toList.isEmpty = false := by
          rw [Bool.eq_false_iff]
          intro e
          have e := List.isEmpty_iff.1 e
          have := congrArg List.length e
          rw [Lib.toList_data] at this
          simp at this
          rw [this] at h0
          exact absurd h0 (by decide)
        have hh : (bts s).head? = some s[0] := by
          have := bts_get s 0 h0
          rw [List.head?_eq_getElem?, List.getElem?_eq_getElem (by rw [bts_length]; exact h0), this]
        by_cases h1 : s[0] = 45
        · have hsg : signOf (bts s) = true := by unfold signOf; rw [hh, h1]; rfl
          refine ⟨true, s.extract 1 s.size, hsg.symm, ?_, ?_, .inr (.inr ⟨h0, by rw [h1]; rfl, rfl, rfl, hne⟩)⟩
          · show _ = _
            rw [bts_extract, List.take_of_length_le (by rw [bts_length]; exact Nat.le_refl _)]
            have := unsigned_neg hsg
            conv => lhs; rw [this]
            rfl
          · show _ ≤ _
            rw [ByteArray.size_extract]; omega
        · have hsg : signOf (bts s) = false := by
            unfold signOf; rw [hh]
            rw [beq_eq_false_iff_ne]
            intro e; injection e with e; exact h1 e
          refine ⟨false, s, hsg.symm, (unsigned_pos hsg).symm, hs, .inr (.inl ⟨h0, ?_, rfl, rfl, hne⟩)⟩
          rw [beq_eq_false_iff_ne]
          intro e
          exact h1 (UInt8.toNat_inj.1 (by have : (45 : UInt8).toNat = 45 := rfl; omega))
      · have he : bts s = [] := by
          apply List.eq_nil_of_length_eq_zero; rw [bts_length]; omega
        refine ⟨false, s, by rw [he]; exact rfl, by rw [he]; exact rfl, hs, .inl ⟨?_, rfl, rfl⟩⟩
        rw [Lib.toList_data]
        unfold bts at he
        rw [show s.data.toList = [] from he]; rfl
    have hcut : ∀ W, Calls Tryz.prog 68 #[.string t, .int .u8 47] W (fun e w' => ∃ a b n, e = .returned (.tuple #[.string a, .string b, .bool (has 47 (unsigned (bts s)))]) ∧ bts a = ahead 47 (unsigned (bts s)) ∧ bts b = (if has 47 (unsigned (bts s)) = true then behind 47 (unsigned (bts s)) else []) ∧ w' = W.drewN n) := by
      intro W
      refine (ref_cut t 47 W HTS.out).mono ?_
      rintro e w' ⟨a, b, h1, h2, h3, n, h4⟩
      rw [HT.out] at h1 h2 h3
      exact ⟨a, b, n, h1, h2, h3, h4⟩
    rcases hcase with ⟨z1, rfl, rfl⟩ | ⟨h0, z1, rfl, rfl, z2⟩ | ⟨h0, z1, rfl, rfl, z2⟩
    all_goals
      go_enter Tryz.func48, Tryz.ntmps48
      go_wp2_with fail
      refine (hcut _).mono ?_
      rintro e w1 ⟨a, b, n, rfl, ha, hb, rfl⟩
      have HA := hide ha
      have hal : (ahead 47 (unsigned (bts s))).length ≤ s.size := by
        have h1 : (ahead 47 (unsigned (bts s))).length ≤ (unsigned (bts s)).length := (List.takeWhile_sublist _).length_le
        have h2 : (unsigned (bts s)).length ≤ (bts s).length := by unfold unsigned; split <;> simp
        rw [bts_length] at h2
        omega
      have hbl : (behind 47 (unsigned (bts s))).length ≤ s.size := by
        have h1 : (behind 47 (unsigned (bts s))).length ≤ (unsigned (bts s)).length := by
          unfold behind
          have := (List.dropWhile_sublist (fun x => x != (47 : UInt8)) (l := unsigned (bts s))).length_le
          rw [List.length_tail]; omega
        have h2 : (unsigned (bts s)).length ≤ (bts s).length := by unfold unsigned; split <;> simp
        rw [bts_length] at h2
        omega
      have HAS := hide (show a.size ≤ 1073741824 by rw [← bts_length, ha]; omega)
      have HKR2 := hide (HKR.out.below (ext_drewN _ n) HKR.out.lt)
      have HWR2 := hide (below_drewN HWR.out n)
      clear HKR HWR
      have HKR := HKR2
      have HWR := HWR2
      clear HKR2 HWR2
      generalize World.drewN _ n = W at HKR HWR ⊢
      have r0 := HKR.out.cell 0
      have r1 := HKR.out.cell 1
      have r2 := HKR.out.cell 2
      have f0 := HKR.out.frozen 0
      have f1 := HKR.out.frozen 1
      have f2 := HKR.out.frozen 2
      have lR := HKR.out.lt
      simp at r0 r1 r2
      cases hh : has 47 (unsigned (bts s)) with
      | false =>
        have HT1 := hide (show lowPart (bts s) = [49] by unfold lowPart; rw [hh]; rfl)
        clear hh hb ha hal hbl hcut z1
        go_wp2_with fail
        generalize hT9 : (⟨#[49]⟩ : ByteArray) = t
        have HT : Hid (bts t = lowPart (bts s)) := hide (by rw [HT1.out, ← hT9]; rfl)
        have HTS : Hid (t.size ≤ 1073741824) := hide (by rw [← hT9]; decide)
        clear hT9
        rcases Bool.eq_false_or_eq_true (isDigs (bts a)) with d1 | d1
        rotate_left
        · have HP := hide (numb_no (.inl (by rw [← HA.out]; exact d1)))
          have HD1 := hide d1
          clear d1
          refine (ref_digits a _ HAS.out).mono ?_
          rintro e w1 ⟨rfl, rfl⟩
          rw [HD1.out]
          go_wp2_with fail
          have kR2 := ref_blk (ng := false) (A := none) (n := 0) (c := 0) (B := none) (m := 0) (d := 0) HKR.out
          have e0 := kR2.cell 0
          have e1 := kR2.cell 1
          have e2 := kR2.cell 2
          simp only [World.ref] at e0 e1 e2
          simp at e0 e1 e2
          refine bodyPost_ret (v := .tuple #[.agg #[.bool false, .slice none 0 0, .slice none 0 0], .bool false]) (by simp [results, Tryz.results48, go_sem, e0, e1, e2]) rfl ?_
          first
          | exact RetNum.no HP.out ⟨_, _, _, _, _, _, _, rfl⟩ HWR.out
          | exact RetNum.no HP.out ⟨_, _, _, _, _, _, _, rfl⟩ (ref_below (g := w.heap.size) (ng := false) (A := none) (n := 0) (c := 0) (B := none) (m := 0) (d := 0) HWR.out (Nat.le_refl _))
        · have HD1 := hide d1
          clear d1
          refine (ref_digits a _ HAS.out).mono ?_
          rintro e w1 ⟨rfl, rfl⟩
          rw [HD1.out]
          go_wp2_with fail
          refine (ref_digits t _ HTS.out).mono ?_
          rintro e w1 ⟨rfl, rfl⟩
          rcases Bool.eq_false_or_eq_true (isDigs (bts t)) with d2 | d2
          rotate_left
          · have HP := hide (numb_no (.inr (.inl (by rw [← HT.out]; exact d2))))
            rw [d2]
            clear d2
            go_wp2_with fail
            have kR2 := ref_blk (ng := false) (A := none) (n := 0) (c := 0) (B := none) (m := 0) (d := 0) HKR.out
            have e0 := kR2.cell 0
            have e1 := kR2.cell 1
            have e2 := kR2.cell 2
            simp only [World.ref] at e0 e1 e2
            simp at e0 e1 e2
            refine bodyPost_ret (v := .tuple #[.agg #[.bool false, .slice none 0 0, .slice none 0 0], .bool false]) (by simp [results, Tryz.results48, go_sem, e0, e1, e2]) rfl ?_
            first
            | exact RetNum.no HP.out ⟨_, _, _, _, _, _, _, rfl⟩ HWR.out
            | exact RetNum.no HP.out ⟨_, _, _, _, _, _, _, rfl⟩ (ref_below (g := w.heap.size) (ng := false) (A := none) (n := 0) (c := 0) (B := none) (m := 0) (d := 0) HWR.out (Nat.le_refl _))
          · have HD2 := hide d2
            rw [d2]
            clear d2
            by_cases l1 : 50000 < a.size
            · have HP := hide (numb_no (.inr (.inr (.inl (by rw [← HA.out, bts_length]; exact l1)))))
              go_wp2_with fail
              have kR2 := ref_blk (ng := false) (A := none) (n := 0) (c := 0) (B := none) (m := 0) (d := 0) HKR.out
              have e0 := kR2.cell 0
              have e1 := kR2.cell 1
              have e2 := kR2.cell 2
              simp only [World.ref] at e0 e1 e2
              simp at e0 e1 e2
              refine bodyPost_ret (v := .tuple #[.agg #[.bool false, .slice none 0 0, .slice none 0 0], .bool false]) (by simp [results, Tryz.results48, go_sem, e0, e1, e2]) rfl ?_
              first
              | exact RetNum.no HP.out ⟨_, _, _, _, _, _, _, rfl⟩ HWR.out
              | exact RetNum.no HP.out ⟨_, _, _, _, _, _, _, rfl⟩ (ref_below (g := w.heap.size) (ng := false) (A := none) (n := 0) (c := 0) (B := none) (m := 0) (d := 0) HWR.out (Nat.le_refl _))
            · by_cases l2 : 50000 < t.size
              · have HP := hide (numb_no (.inr (.inr (.inr (.inl (by rw [← HT.out, bts_length]; exact l2))))))
                go_wp2_with fail
                have kR2 := ref_blk (ng := false) (A := none) (n := 0) (c := 0) (B := none) (m := 0) (d := 0) HKR.out
                have e0 := kR2.cell 0
                have e1 := kR2.cell 1
                have e2 := kR2.cell 2
                simp only [World.ref] at e0 e1 e2
                simp at e0 e1 e2
                refine bodyPost_ret (v := .tuple #[.agg #[.bool false, .slice none 0 0, .slice none 0 0], .bool false]) (by simp [results, Tryz.results48, go_sem, e0, e1, e2]) rfl ?_
                first
                | exact RetNum.no HP.out ⟨_, _, _, _, _, _, _, rfl⟩ HWR.out
                | exact RetNum.no HP.out ⟨_, _, _, _, _, _, _, rfl⟩ (ref_below (g := w.heap.size) (ng := false) (A := none) (n := 0) (c := 0) (B := none) (m := 0) (d := 0) HWR.out (Nat.le_refl _))
              · have HL1 := hide (show (bts a).length ≤ 50000 by rw [bts_length]; omega)
                have HL2 := hide (show (bts t).length ≤ 50000 by rw [bts_length]; omega)
                have HIF := hide (numb_if (l := bts s) (by rw [← HA.out]; exact HD1.out) (by rw [← HT.out]; exact HD2.out) (by rw [← HA.out]; exact HL1.out) (by rw [← HT.out]; exact HL2.out))
                go_wp2_with fail
                refine (ref_size t _ (isDigs_all HD2.out) (by have := HL2.out; rw [bts_length] at this; omega)).mono ?_
                rintro e w2 ⟨v, rfl, hv, hb2⟩
                have hlv := sz_dec HD2.out HL2.out
                have hln := sz_dec HD1.out HL1.out
                rw [HT.out] at hv hlv
                rw [HA.out] at hln
                obtain ⟨dv, hdv⟩ : ∃ dv, decVal (lowPart (bts s)) = dv := ⟨_, rfl⟩
                obtain ⟨nv, hnv⟩ : ∃ nv, decVal (ahead 47 (unsigned (bts s))) = nv := ⟨_, rfl⟩
                rw [hdv] at hv hlv HIF
                rw [hnv] at hln HIF
                have HDV := hide hdv
                have HNV := hide hnv
                obtain ⟨A, c, rfl⟩ := hv.form
                have HV := hide hv
                have HLV := hide hlv
                have HLN := hide hln
                have HWR2 := hide (ext HWR.out hb2)
                have HKR2 := hide (HKR.out.below hb2 HKR.out.lt)
                clear r0 r1 r2 f0 f1 f2 lR HKR HWR
                have HKR := HKR2
                have HWR := HWR2
                clear HKR2 HWR2
                have r0 := HKR.out.cell 0
                have r1 := HKR.out.cell 1
                have r2 := HKR.out.cell 2
                have f0 := HKR.out.frozen 0
                have f1 := HKR.out.frozen 1
                have f2 := HKR.out.frozen 2
                have lR := HKR.out.lt
                simp at r0 r1 r2
                clear hv hlv hln hb2 l1 l2 hdv hnv
                by_cases hz : dv = 0
                · subst hz
                  have HP := hide (numb_no (.inr (.inr (.inr (.inr HDV.out)))))
                  have hz0 : ((len 1000000000 0 : Int) == 0) = true := by rw [len_zero]; rfl
                  go_wp2_with fail
                  have kR2 := ref_blk (ng := false) (A := none) (n := 0) (c := 0) (B := none) (m := 0) (d := 0) HKR.out
                  have e0 := kR2.cell 0
                  have e1 := kR2.cell 1
                  have e2 := kR2.cell 2
                  simp only [World.ref] at e0 e1 e2
                  simp at e0 e1 e2
                  refine bodyPost_ret (v := .tuple #[.agg #[.bool false, .slice none 0 0, .slice none 0 0], .bool false]) (by simp [results, Tryz.results48, go_sem, e0, e1, e2]) rfl ?_
                  first
                  | exact RetNum.no HP.out ⟨_, _, _, _, _, _, _, rfl⟩ HWR.out
                  | exact RetNum.no HP.out ⟨_, _, _, _, _, _, _, rfl⟩ (ref_below (g := w.heap.size) (ng := false) (A := none) (n := 0) (c := 0) (B := none) (m := 0) (d := 0) HWR.out (Nat.le_refl _))
                · have hz0 : ((len 1000000000 dv : Int) == 0) = false := by rw [beq_eq_false_iff_ne]; have := len_pos (β := 1000000000) (n := dv) (by omega) (by omega); omega
                  have HZ := hide (show 0 < dv by omega)
                  clear hz
                  go_wp2_with fail
                  refine (ref_size a _ (isDigs_all HD1.out) (by have := HL1.out; rw [bts_length] at this; omega)).mono ?_
                  rintro e w3 ⟨v3, rfl, hv3, hb3⟩
                  rw [HA.out, HNV.out] at hv3
                  have HV3 := hide hv3
                  have HVa := hide (SizIs.below HV.out hb3)
                  have HWR3 := hide (ext HWR.out hb3)
                  have HKR3 := hide (HKR.out.below hb3 HKR.out.lt)
                  clear hv3 hb3 r0 r1 r2 f0 f1 f2 lR HKR HWR
                  go_wp2_with fail
                  refine (ref_lowest _ _ _ nv dv _ HV3.out HVa.out HZ.out (Nat.le_trans HLN.out (by decide)) (Nat.le_trans HLV.out (by decide))).mono ?_
                  rintro e w4 ⟨v4, rfl, hv4, hb4⟩
                  rw [HN.out] at hv4
                  obtain ⟨q, hq⟩ : ∃ q, q = ratOf (signOf (bts s)) nv dv := ⟨_, rfl⟩
                  have HQL := hide (show NLen 33554432 q by rw [hq]; exact ratOf_nlen HZ.out (Nat.le_trans HLN.out (by decide)) (Nat.le_trans HLV.out (by decide)))
                  rw [← hq] at hv4 HIF
                  obtain ⟨nq, A5, c5, B5, d5, rfl, hng, ha1, ha2⟩ := hv4.form
                  have HNG := hide hng
                  have hb5 := ext_alloc w4 (.cells #[.bool nq, .slice A5 (len 1000000000 q.num.natAbs) c5, .slice B5 (len 1000000000 q.den) d5] 42)
                  have HKR5 := hide (show RefRes _ w.heap.size from ⟨_, _, _, _, _, _, _, HKR3.out.below (ext hb4 hb5) HKR3.out.lt⟩)
                  have HWR5 := hide (ext HWR3.out (ext hb4 hb5))
                  have HS1 := hide (SizIs.below ha1 hb5)
                  have HS2 := hide (SizIs.below ha2 hb5)
                  have HKQ := hide (Blk.new w4 42 #[.bool nq, .slice A5 (len 1000000000 q.num.natAbs) c5, .slice B5 (len 1000000000 q.den) d5])
                  have lgq : w.heap.size < w4.heap.size := (HKR3.out.below hb4 HKR3.out.lt).lt
                  obtain ⟨n5, hn5⟩ : ∃ n5, len 1000000000 q.num.natAbs = n5 := ⟨_, rfl⟩
                  obtain ⟨m5, hm5⟩ : ∃ m5, len 1000000000 q.den = m5 := ⟨_, rfl⟩
                  rw [hn5, hm5] at HKR5 HWR5 HKQ ⊢
                  rw [hn5, hm5] at HS1 HS2
                  clear hq hv4 hng hb4 hb5 ha1 ha2 hn5 hm5 HKR3 HWR3 HV3 HVa HV
                  go_wp2_with fail
                  generalize hgq : w4.heap.size = gq at HKQ lgq ⊢
                  generalize w4.alloc (.cells #[.bool nq, .slice A5 n5 c5, .slice B5 m5 d5] 42) = W7 at HS1 HS2 HKR5 HWR5 HKQ ⊢
                  clear hgq
                  have hlq := HKQ.out.lt
                  have q0 := HKQ.out.cell 0
                  have q1 := HKQ.out.cell 1
                  have q2 := HKQ.out.cell 2
                  simp at q0 q1 q2
                  have HRES := hide (show RefRes W7.drew w.heap.size from HKR5.out)
                  have HWX := hide (show Below w.heap.size w W7.drew from below_drewN HWR5.out 1)
                  have HY1 := hide (show SizIs W7.drew _ q.num.natAbs from SizIs.below HS1.out (ext_drewN W7 1))
                  have HY2 := hide (show SizIs W7.drew _ q.den from SizIs.below HS2.out (ext_drewN W7 1))
                  clear HS1 HS2
                  go_region_held3 (fun w' => w'.cell? ⟨gq, 0, none⟩ = some (.bool nq) ∧ w'.cell? ⟨gq, 1, none⟩ = some (.slice A5 n5 c5) ∧ w'.cell? ⟨gq, 2, none⟩ = some (.slice B5 m5 d5) ∧ gq < w'.heap.size ∧ Hid (RefRes w' w.heap.size) ∧ Hid (Below w.heap.size w w') ∧ Hid (SizIs w' (.slice A5 n5 c5) q.num.natAbs) ∧ Hid (SizIs w' (.slice B5 m5 d5) q.den))
                    (first
                      | with_reducible exact ⟨by go_keep, by go_keep, by go_keep, by first | (simp; done) | (simp; assumption), HRES, HWX, HY1, HY2⟩
                      | (go_split_ands; with_reducible exact ⟨ref_cell (by omega) (by assumption), ref_cell (by omega) (by assumption), ref_cell (by omega) (by assumption), ref_hsize (by assumption), hid_rres_ref (by assumption), hid_below_ref (by omega) (by assumption), hid_siz_ref (by assumption) (by assumption), hid_siz_ref (by assumption) (by assumption)⟩)
                      | (go_split_ands; with_reducible exact ⟨cell_keep (by assumption) (by assumption) (by assumption), cell_keep (by assumption) (by assumption) (by assumption), cell_keep (by assumption) (by assumption) (by assumption), size_keep (by assumption) (by assumption), hid_rres (by assumption) (by assumption), hid_below (by assumption) (by assumption), hid_siz (by assumption) (by assumption), hid_siz (by assumption) (by assumption)⟩)
                      | go_keep)
                    (first
                      | (go_at_call 72; refine (ref_text _ q _ ⟨_, _, _, _, _, _, _, rfl, HNG.out, unhide (by go_split_ands; assumption), unhide (by go_split_ands; assumption)⟩ HQL.out).mono ?_; rintro e wo ⟨rfl, hbo⟩; obtain ⟨ngr, Ar, kr, cr, Br, krx, crx, kR⟩ := (hid_rres (g := w.heap.size) hbo (by go_split_ands; assumption)).out; have r0 := kR.cell 0; have r1 := kR.cell 1; have r2 := kR.cell 2; have f0 := kR.frozen 0; have f1 := kR.frozen 1; have f2 := kR.frozen 2; simp at r0 r1 r2; have HKR := hide kR; clear kR))
                  all_goals
                    go_split_ands
                    have kR2 := ref_blk (ng := nq) (A := A5) (n := n5) (c := c5) (B := B5) (m := m5) (d := d5) HKR.out
                    have hR1 := unhide (by assumption : Hid (SizIs (World.ref wo w.heap.size nq A5 n5 c5 B5 m5 d5) (.slice A5 n5 c5) q.num.natAbs))
                    have hR2 := unhide (by assumption : Hid (SizIs (World.ref wo w.heap.size nq A5 n5 c5 B5 m5 d5) (.slice B5 m5 d5) q.den))
                    have hRW := unhide (by assumption : Hid (Below w.heap.size w (World.ref wo w.heap.size nq A5 n5 c5 B5 m5 d5)))
                    have e0 := kR2.cell 0
                    have e1 := kR2.cell 1
                    have e2 := kR2.cell 2
                    simp only [World.ref] at e0 e1 e2
                    simp at e0 e1 e2
                    go_wp2
                    refine bodyPost_ret (v := .tuple #[.agg #[.bool nq, .slice A5 n5 c5, .slice B5 m5 d5], .bool (fracText q == s.toList)]) (by simp [results, Tryz.results48, go_sem, e0, e1, e2]) rfl ?_
                    exact RetNum.maybe HIF.out (beq_bts _ _) ⟨_, _, _, _, _, _, _, rfl, HNG.out, hR1, hR2⟩ hRW
      | true =>
        have HT := hide (show bts b = lowPart (bts s) by rw [hb, if_pos hh]; unfold lowPart; rw [hh]; rfl)
        have HTS := hide (show b.size ≤ 1073741824 by rw [← bts_length, hb, if_pos hh]; omega)
        clear hh hb ha hal hbl hcut z1
        obtain ⟨t, ht⟩ : ∃ t, t = b := ⟨b, rfl⟩
        subst ht
        go_wp2_with fail
        rcases Bool.eq_false_or_eq_true (isDigs (bts a)) with d1 | d1
        rotate_left
        · have HP := hide (numb_no (.inl (by rw [← HA.out]; exact d1)))
          have HD1 := hide d1
          clear d1
          refine (ref_digits a _ HAS.out).mono ?_
          rintro e w1 ⟨rfl, rfl⟩
          rw [HD1.out]
          go_wp2_with fail
          have kR2 := ref_blk (ng := false) (A := none) (n := 0) (c := 0) (B := none) (m := 0) (d := 0) HKR.out
          have e0 := kR2.cell 0
          have e1 := kR2.cell 1
          have e2 := kR2.cell 2
          simp only [World.ref] at e0 e1 e2
          simp at e0 e1 e2
          refine bodyPost_ret (v := .tuple #[.agg #[.bool false, .slice none 0 0, .slice none 0 0], .bool false]) (by simp [results, Tryz.results48, go_sem, e0, e1, e2]) rfl ?_
          first
          | exact RetNum.no HP.out ⟨_, _, _, _, _, _, _, rfl⟩ HWR.out
          | exact RetNum.no HP.out ⟨_, _, _, _, _, _, _, rfl⟩ (ref_below (g := w.heap.size) (ng := false) (A := none) (n := 0) (c := 0) (B := none) (m := 0) (d := 0) HWR.out (Nat.le_refl _))
        · have HD1 := hide d1
          clear d1
          refine (ref_digits a _ HAS.out).mono ?_
          rintro e w1 ⟨rfl, rfl⟩
          rw [HD1.out]
          go_wp2_with fail
          refine (ref_digits t _ HTS.out).mono ?_
          rintro e w1 ⟨rfl, rfl⟩
          rcases Bool.eq_false_or_eq_true (isDigs (bts t)) with d2 | d2
          rotate_left
          · have HP := hide (numb_no (.inr (.inl (by rw [← HT.out]; exact d2))))
            rw [d2]
            clear d2
            go_wp2_with fail
            have kR2 := ref_blk (ng := false) (A := none) (n := 0) (c := 0) (B := none) (m := 0) (d := 0) HKR.out
            have e0 := kR2.cell 0
            have e1 := kR2.cell 1
            have e2 := kR2.cell 2
            simp only [World.ref] at e0 e1 e2
            simp at e0 e1 e2
            refine bodyPost_ret (v := .tuple #[.agg #[.bool false, .slice none 0 0, .slice none 0 0], .bool false]) (by simp [results, Tryz.results48, go_sem, e0, e1, e2]) rfl ?_
            first
            | exact RetNum.no HP.out ⟨_, _, _, _, _, _, _, rfl⟩ HWR.out
            | exact RetNum.no HP.out ⟨_, _, _, _, _, _, _, rfl⟩ (ref_below (g := w.heap.size) (ng := false) (A := none) (n := 0) (c := 0) (B := none) (m := 0) (d := 0) HWR.out (Nat.le_refl _))
          · have HD2 := hide d2
            rw [d2]
            clear d2
            by_cases l1 : 50000 < a.size
            · have HP := hide (numb_no (.inr (.inr (.inl (by rw [← HA.out, bts_length]; exact l1)))))
              go_wp2_with fail
              have kR2 := ref_blk (ng := false) (A := none) (n := 0) (c := 0) (B := none) (m := 0) (d := 0) HKR.out
              have e0 := kR2.cell 0
              have e1 := kR2.cell 1
              have e2 := kR2.cell 2
              simp only [World.ref] at e0 e1 e2
              simp at e0 e1 e2
              refine bodyPost_ret (v := .tuple #[.agg #[.bool false, .slice none 0 0, .slice none 0 0], .bool false]) (by simp [results, Tryz.results48, go_sem, e0, e1, e2]) rfl ?_
              first
              | exact RetNum.no HP.out ⟨_, _, _, _, _, _, _, rfl⟩ HWR.out
              | exact RetNum.no HP.out ⟨_, _, _, _, _, _, _, rfl⟩ (ref_below (g := w.heap.size) (ng := false) (A := none) (n := 0) (c := 0) (B := none) (m := 0) (d := 0) HWR.out (Nat.le_refl _))
            · by_cases l2 : 50000 < t.size
              · have HP := hide (numb_no (.inr (.inr (.inr (.inl (by rw [← HT.out, bts_length]; exact l2))))))
                go_wp2_with fail
                have kR2 := ref_blk (ng := false) (A := none) (n := 0) (c := 0) (B := none) (m := 0) (d := 0) HKR.out
                have e0 := kR2.cell 0
                have e1 := kR2.cell 1
                have e2 := kR2.cell 2
                simp only [World.ref] at e0 e1 e2
                simp at e0 e1 e2
                refine bodyPost_ret (v := .tuple #[.agg #[.bool false, .slice none 0 0, .slice none 0 0], .bool false]) (by simp [results, Tryz.results48, go_sem, e0, e1, e2]) rfl ?_
                first
                | exact RetNum.no HP.out ⟨_, _, _, _, _, _, _, rfl⟩ HWR.out
                | exact RetNum.no HP.out ⟨_, _, _, _, _, _, _, rfl⟩ (ref_below (g := w.heap.size) (ng := false) (A := none) (n := 0) (c := 0) (B := none) (m := 0) (d := 0) HWR.out (Nat.le_refl _))
              · have HL1 := hide (show (bts a).length ≤ 50000 by rw [bts_length]; omega)
                have HL2 := hide (show (bts t).length ≤ 50000 by rw [bts_length]; omega)
                have HIF := hide (numb_if (l := bts s) (by rw [← HA.out]; exact HD1.out) (by rw [← HT.out]; exact HD2.out) (by rw [← HA.out]; exact HL1.out) (by rw [← HT.out]; exact HL2.out))
                go_wp2_with fail
                refine (ref_size t _ (isDigs_all HD2.out) (by have := HL2.out; rw [bts_length] at this; omega)).mono ?_
                rintro e w2 ⟨v, rfl, hv, hb2⟩
                have hlv := sz_dec HD2.out HL2.out
                have hln := sz_dec HD1.out HL1.out
                rw [HT.out] at hv hlv
                rw [HA.out] at hln
                obtain ⟨dv, hdv⟩ : ∃ dv, decVal (lowPart (bts s)) = dv := ⟨_, rfl⟩
                obtain ⟨nv, hnv⟩ : ∃ nv, decVal (ahead 47 (unsigned (bts s))) = nv := ⟨_, rfl⟩
                rw [hdv] at hv hlv HIF
                rw [hnv] at hln HIF
                have HDV := hide hdv
                have HNV := hide hnv
                obtain ⟨A, c, rfl⟩ := hv.form
                have HV := hide hv
                have HLV := hide hlv
                have HLN := hide hln
                have HWR2 := hide (ext HWR.out hb2)
                have HKR2 := hide (HKR.out.below hb2 HKR.out.lt)
                clear r0 r1 r2 f0 f1 f2 lR HKR HWR
                have HKR := HKR2
                have HWR := HWR2
                clear HKR2 HWR2
                have r0 := HKR.out.cell 0
                have r1 := HKR.out.cell 1
                have r2 := HKR.out.cell 2
                have f0 := HKR.out.frozen 0
                have f1 := HKR.out.frozen 1
                have f2 := HKR.out.frozen 2
                have lR := HKR.out.lt
                simp at r0 r1 r2
                clear hv hlv hln hb2 l1 l2 hdv hnv
                by_cases hz : dv = 0
                · subst hz
                  have HP := hide (numb_no (.inr (.inr (.inr (.inr HDV.out)))))
                  have hz0 : ((len 1000000000 0 : Int) == 0) = true := by rw [len_zero]; rfl
                  go_wp2_with fail
                  have kR2 := ref_blk (ng := false) (A := none) (n := 0) (c := 0) (B := none) (m := 0) (d := 0) HKR.out
                  have e0 := kR2.cell 0
                  have e1 := kR2.cell 1
                  have e2 := kR2.cell 2
                  simp only [World.ref] at e0 e1 e2
                  simp at e0 e1 e2
                  refine bodyPost_ret (v := .tuple #[.agg #[.bool false, .slice none 0 0, .slice none 0 0], .bool false]) (by simp [results, Tryz.results48, go_sem, e0, e1, e2]) rfl ?_
                  first
                  | exact RetNum.no HP.out ⟨_, _, _, _, _, _, _, rfl⟩ HWR.out
                  | exact RetNum.no HP.out ⟨_, _, _, _, _, _, _, rfl⟩ (ref_below (g := w.heap.size) (ng := false) (A := none) (n := 0) (c := 0) (B := none) (m := 0) (d := 0) HWR.out (Nat.le_refl _))
                · have hz0 : ((len 1000000000 dv : Int) == 0) = false := by rw [beq_eq_false_iff_ne]; have := len_pos (β := 1000000000) (n := dv) (by omega) (by omega); omega
                  have HZ := hide (show 0 < dv by omega)
                  clear hz
                  go_wp2_with fail
                  refine (ref_size a _ (isDigs_all HD1.out) (by have := HL1.out; rw [bts_length] at this; omega)).mono ?_
                  rintro e w3 ⟨v3, rfl, hv3, hb3⟩
                  rw [HA.out, HNV.out] at hv3
                  have HV3 := hide hv3
                  have HVa := hide (SizIs.below HV.out hb3)
                  have HWR3 := hide (ext HWR.out hb3)
                  have HKR3 := hide (HKR.out.below hb3 HKR.out.lt)
                  clear hv3 hb3 r0 r1 r2 f0 f1 f2 lR HKR HWR
                  go_wp2_with fail
                  refine (ref_lowest _ _ _ nv dv _ HV3.out HVa.out HZ.out (Nat.le_trans HLN.out (by decide)) (Nat.le_trans HLV.out (by decide))).mono ?_
                  rintro e w4 ⟨v4, rfl, hv4, hb4⟩
                  rw [HN.out] at hv4
                  obtain ⟨q, hq⟩ : ∃ q, q = ratOf (signOf (bts s)) nv dv := ⟨_, rfl⟩
                  have HQL := hide (show NLen 33554432 q by rw [hq]; exact ratOf_nlen HZ.out (Nat.le_trans HLN.out (by decide)) (Nat.le_trans HLV.out (by decide)))
                  rw [← hq] at hv4 HIF
                  obtain ⟨nq, A5, c5, B5, d5, rfl, hng, ha1, ha2⟩ := hv4.form
                  have HNG := hide hng
                  have hb5 := ext_alloc w4 (.cells #[.bool nq, .slice A5 (len 1000000000 q.num.natAbs) c5, .slice B5 (len 1000000000 q.den) d5] 42)
                  have HKR5 := hide (show RefRes _ w.heap.size from ⟨_, _, _, _, _, _, _, HKR3.out.below (ext hb4 hb5) HKR3.out.lt⟩)
                  have HWR5 := hide (ext HWR3.out (ext hb4 hb5))
                  have HS1 := hide (SizIs.below ha1 hb5)
                  have HS2 := hide (SizIs.below ha2 hb5)
                  have HKQ := hide (Blk.new w4 42 #[.bool nq, .slice A5 (len 1000000000 q.num.natAbs) c5, .slice B5 (len 1000000000 q.den) d5])
                  have lgq : w.heap.size < w4.heap.size := (HKR3.out.below hb4 HKR3.out.lt).lt
                  obtain ⟨n5, hn5⟩ : ∃ n5, len 1000000000 q.num.natAbs = n5 := ⟨_, rfl⟩
                  obtain ⟨m5, hm5⟩ : ∃ m5, len 1000000000 q.den = m5 := ⟨_, rfl⟩
                  rw [hn5, hm5] at HKR5 HWR5 HKQ ⊢
                  rw [hn5, hm5] at HS1 HS2
                  clear hq hv4 hng hb4 hb5 ha1 ha2 hn5 hm5 HKR3 HWR3 HV3 HVa HV
                  go_wp2_with fail
                  generalize hgq : w4.heap.size = gq at HKQ lgq ⊢
                  generalize w4.alloc (.cells #[.bool nq, .slice A5 n5 c5, .slice B5 m5 d5] 42) = W7 at HS1 HS2 HKR5 HWR5 HKQ ⊢
                  clear hgq
                  have hlq := HKQ.out.lt
                  have q0 := HKQ.out.cell 0
                  have q1 := HKQ.out.cell 1
                  have q2 := HKQ.out.cell 2
                  simp at q0 q1 q2
                  have HRES := hide (show RefRes W7.drew w.heap.size from HKR5.out)
                  have HWX := hide (show Below w.heap.size w W7.drew from below_drewN HWR5.out 1)
                  have HY1 := hide (show SizIs W7.drew _ q.num.natAbs from SizIs.below HS1.out (ext_drewN W7 1))
                  have HY2 := hide (show SizIs W7.drew _ q.den from SizIs.below HS2.out (ext_drewN W7 1))
                  clear HS1 HS2
                  go_region_held3 (fun w' => w'.cell? ⟨gq, 0, none⟩ = some (.bool nq) ∧ w'.cell? ⟨gq, 1, none⟩ = some (.slice A5 n5 c5) ∧ w'.cell? ⟨gq, 2, none⟩ = some (.slice B5 m5 d5) ∧ gq < w'.heap.size ∧ Hid (RefRes w' w.heap.size) ∧ Hid (Below w.heap.size w w') ∧ Hid (SizIs w' (.slice A5 n5 c5) q.num.natAbs) ∧ Hid (SizIs w' (.slice B5 m5 d5) q.den))
                    (first
                      | with_reducible exact ⟨by go_keep, by go_keep, by go_keep, by first | (simp; done) | (simp; assumption), HRES, HWX, HY1, HY2⟩
                      | (go_split_ands; with_reducible exact ⟨ref_cell (by omega) (by assumption), ref_cell (by omega) (by assumption), ref_cell (by omega) (by assumption), ref_hsize (by assumption), hid_rres_ref (by assumption), hid_below_ref (by omega) (by assumption), hid_siz_ref (by assumption) (by assumption), hid_siz_ref (by assumption) (by assumption)⟩)
                      | (go_split_ands; with_reducible exact ⟨cell_keep (by assumption) (by assumption) (by assumption), cell_keep (by assumption) (by assumption) (by assumption), cell_keep (by assumption) (by assumption) (by assumption), size_keep (by assumption) (by assumption), hid_rres (by assumption) (by assumption), hid_below (by assumption) (by assumption), hid_siz (by assumption) (by assumption), hid_siz (by assumption) (by assumption)⟩)
                      | go_keep)
                    (first
                      | (go_at_call 72; refine (ref_text _ q _ ⟨_, _, _, _, _, _, _, rfl, HNG.out, unhide (by go_split_ands; assumption), unhide (by go_split_ands; assumption)⟩ HQL.out).mono ?_; rintro e wo ⟨rfl, hbo⟩; obtain ⟨ngr, Ar, kr, cr, Br, krx, crx, kR⟩ := (hid_rres (g := w.heap.size) hbo (by go_split_ands; assumption)).out; have r0 := kR.cell 0; have r1 := kR.cell 1; have r2 := kR.cell 2; have f0 := kR.frozen 0; have f1 := kR.frozen 1; have f2 := kR.frozen 2; simp at r0 r1 r2; have HKR := hide kR; clear kR))
                  all_goals
                    go_split_ands
                    have kR2 := ref_blk (ng := nq) (A := A5) (n := n5) (c := c5) (B := B5) (m := m5) (d := d5) HKR.out
                    have hR1 := unhide (by assumption : Hid (SizIs (World.ref wo w.heap.size nq A5 n5 c5 B5 m5 d5) (.slice A5 n5 c5) q.num.natAbs))
                    have hR2 := unhide (by assumption : Hid (SizIs (World.ref wo w.heap.size nq A5 n5 c5 B5 m5 d5) (.slice B5 m5 d5) q.den))
                    have hRW := unhide (by assumption : Hid (Below w.heap.size w (World.ref wo w.heap.size nq A5 n5 c5 B5 m5 d5)))
                    have e0 := kR2.cell 0
                    have e1 := kR2.cell 1
                    have e2 := kR2.cell 2
                    simp only [World.ref] at e0 e1 e2
                    simp at e0 e1 e2
                    go_wp2
                    refine bodyPost_ret (v := .tuple #[.agg #[.bool nq, .slice A5 n5 c5, .slice B5 m5 d5], .bool (fracText q == s.toList)]) (by simp [results, Tryz.results48, go_sem, e0, e1, e2]) rfl ?_
                    exact RetNum.maybe HIF.out (beq_bts _ _) ⟨_, _, _, _, _, _, _, rfl, HNG.out, hR1, hR2⟩ hRW
end Go.Proofs.YtmeagiodcnfmgaaGreat
namespace Go.Proofs.YtmeagiodcnfmgaaGreat
open Go.RowKit Go.Deep
attribute [local go_sem ↓] Go.wp_at_zero Go.wp_at_succ
theorem len_mul9 {a b M K : Nat} (h1 : len 1000000000 a ≤ M) (h2 : len 1000000000 b ≤ K) : len 1000000000 (a * b) ≤ M + K :=
  Nat.le_trans (len_mul (by omega) a b) (Nat.add_le_add h1 h2)
end Go.Proofs.YtmeagiodcnfmgaaGreat
namespace Go.Proofs.YtmeagiodcnfmgaaGreat
open Go.RowKit Go.Deep
attribute [local go_sem ↓] Go.wp_at_zero Go.wp_at_succ
theorem NLen.neg {M : Nat} {x : Rat} (h : NLen M x) : NLen M (-x) := by
  unfold NLen at h ⊢
  rw [Rat.neg_num, Rat.neg_den, Int.natAbs_neg]
  exact h
theorem NLen.mono {M K : Nat} {x : Rat} (h : NLen M x) (hk : M ≤ K) : NLen K x := ⟨Nat.le_trans h.1 hk, Nat.le_trans h.2 hk⟩
set_option maxRecDepth 100000 in
set_option maxHeartbeats 4000000 in
theorem ref_neg_num (va : Value) (x : Rat) (w : World) (ha : RefIs w va x) :
    Calls Tryz.prog 50 #[va] w (NewRef w (-x)) := by
  obtain ⟨g, A, c, B, d, rfl, hg, ha1, ha2⟩ := ha.form
  have hs : (!g && decide (0 < len 1000000000 x.num.natAbs)) = decide ((-x).num < 0) := by
    rw [Rat.neg_num, hg]
    have h1 := len_pos (β := 1000000000) (n := x.num.natAbs) (by omega)
    have h2 := len_zero (β := 1000000000)
    by_cases h0 : x.num < 0
    · rw [decide_eq_true h0, decide_eq_false (show ¬ -x.num < 0 by omega)]; rfl
    · by_cases h3 : x.num = 0
      · rw [h3]; rw [show (0 : Int).natAbs = 0 from rfl, h2]; decide
      · rw [decide_eq_false h0, decide_eq_true (show 0 < len 1000000000 x.num.natAbs from h1 (by omega)), decide_eq_true (show -x.num < 0 by omega)]; rfl
  have HS := hide hs
  have HA := hide ha1
  have HB := hide ha2
  obtain ⟨n, hn⟩ : ∃ n, len 1000000000 x.num.natAbs = n := ⟨_, rfl⟩
  obtain ⟨m, hm⟩ : ∃ m, len 1000000000 x.den = m := ⟨_, rfl⟩
  rw [hn] at HS HA
  rw [hm] at HB
  rw [hn, hm]
  clear ha ha1 ha2 hs hg hn hm
  have HN1 := hide (show (-x).num.natAbs = x.num.natAbs by rw [Rat.neg_num, Int.natAbs_neg])
  have HW := hide (fun (v : Bool) => ext (ext_alloc w (.cells #[.bool g, .slice A n c, .slice B m d] 42)) (ext_alloc (w.alloc (.cells #[.bool g, .slice A n c, .slice B m d] 42)) (.cells #[.bool v, .slice A n c, .slice B m d] 42)))
  cases g
  · go_enter Tryz.func50, Tryz.ntmps50
    go_wp2_with fail
    refine bodyPost_ret (v := .agg #[.bool (decide (0 < n)), .slice A n c, .slice B m d]) (by simp [results, Tryz.results50, go_sem]) rfl ?_
    refine ⟨_, rfl, ⟨_, _, _, _, _, _, _, rfl, HS.out, ?_, ?_⟩, HW.out _⟩
    · rw [HN1.out]; exact SizIs.below HA.out (HW.out _)
    · exact SizIs.below HB.out (HW.out _)
  · go_enter Tryz.func50, Tryz.ntmps50
    go_wp2_with fail
    refine bodyPost_ret (v := .agg #[.bool false, .slice A n c, .slice B m d]) (by simp [results, Tryz.results50, go_sem]) rfl ?_
    refine ⟨_, rfl, ⟨_, _, _, _, _, _, _, rfl, HS.out, ?_, ?_⟩, HW.out _⟩
    · rw [HN1.out]; exact SizIs.below HA.out (HW.out _)
    · exact SizIs.below HB.out (HW.out _)
set_option maxRecDepth 100000 in
set_option maxHeartbeats 4000000 in
theorem ref_sign (va : Value) (x : Rat) (w : World) (ha : RefIs w va x) :
    Calls Tryz.prog 32 #[va] w (RetB w (.int .i64 x.num.sign)) := by
  obtain ⟨g, A, c, B, d, rfl, hg, ha1, ha2⟩ := ha.form
  have HW := hide (ext_alloc w (.cells #[.bool g, .slice A (len 1000000000 x.num.natAbs) c, .slice B (len 1000000000 x.den) d] 42))
  by_cases h0 : x.num = 0
  · have HS := hide (show x.num.sign = 0 by rw [h0]; rfl)
    have hl : len 1000000000 x.num.natAbs = 0 := by rw [h0]; exact len_zero _
    rw [hl] at HW ⊢
    generalize len 1000000000 x.den = m at HW ⊢
    clear h0 hg hl ha ha1 ha2
    go_enter Tryz.func32, Tryz.ntmps32
    go_wp2_with fail
    go_ret
    exact ⟨ret_i64' HS.out, HW.out⟩
  · have hl : ((len 1000000000 x.num.natAbs : Int) == 0) = false := by
      rw [beq_eq_false_iff_ne]; have := len_pos (β := 1000000000) (n := x.num.natAbs) (by omega) (by omega); omega
    have HS := hide (show x.num.sign = if g then -1 else 1 by
      rw [hg]
      by_cases h1 : x.num < 0
      · rw [decide_eq_true h1]; simpa using Int.sign_eq_neg_one_of_neg h1
      · rw [decide_eq_false h1]; simpa using Int.sign_eq_one_of_pos (by omega))
    generalize len 1000000000 x.num.natAbs = n at HW hl ha ha1 ⊢
    generalize len 1000000000 x.den = m at HW ha ha2 ⊢
    clear h0 hg ha ha1 ha2
    cases g
    · go_enter Tryz.func32, Tryz.ntmps32
      go_wp2_with fail
      go_ret
      exact ⟨ret_i64' HS.out, HW.out⟩
    · go_enter Tryz.func32, Tryz.ntmps32
      go_wp2_with fail
      go_ret
      exact ⟨ret_i64' HS.out, HW.out⟩
end Go.Proofs.YtmeagiodcnfmgaaGreat
namespace Go.Proofs.YtmeagiodcnfmgaaGreat
open Go.RowKit Go.Deep
attribute [local go_sem ↓] Go.wp_at_zero Go.wp_at_succ
theorem cmp_ge9 {a b : Nat} : decide (0 ≤ cmpOf (a : Int) (b : Int)) = decide (b ≤ a) := by
  unfold cmpOf
  rcases Nat.lt_trichotomy a b with h | h | h
  · rw [if_pos (by omega), decide_eq_false (show ¬ b ≤ a by omega)]; rfl
  · rw [if_neg (by omega), if_neg (by omega), decide_eq_true (show b ≤ a by omega)]; rfl
  · rw [if_neg (by omega), if_pos (by omega), decide_eq_true (show b ≤ a by omega)]; rfl
set_option maxRecDepth 100000 in
set_option maxHeartbeats 16000000 in
theorem ref_plus_num (va vb : Value) (x y : Rat) (w : World) (ha : RefIs w va x) (hb : RefIs w vb y) (hx : NLen 8388608 x) (hy : NLen 8388608 y) :
    Calls Tryz.prog 49 #[va, vb] w (NewRef w (x + y)) := by
  obtain ⟨g1, A1, n1, c1, B1, m1, d1, rfl, hg1, ha1, ha2⟩ := ha
  obtain ⟨g2, A2, n2, c2, B2, m2, d2, rfl, hg2, hb1, hb2⟩ := hb
  have HX1 := hide (Nat.le_trans hx.1 (show 8388608 ≤ 67108864 by omega))
  have HX2 := hide (Nat.le_trans hx.2 (show 8388608 ≤ 67108864 by omega))
  have HY1 := hide (Nat.le_trans hy.1 (show 8388608 ≤ 67108864 by omega))
  have HY2 := hide (Nat.le_trans hy.2 (show 8388608 ≤ 67108864 by omega))
  have hl1 := len_mul9 hx.1 hy.2
  have hl2 := len_mul9 hy.1 hx.2
  have HLA := hide (Nat.le_trans hl1 (show 8388608 + 8388608 ≤ 67108864 by omega))
  have HLB := hide (Nat.le_trans hl2 (show 8388608 + 8388608 ≤ 67108864 by omega))
  have HLL := hide (Nat.le_trans (len_mul9 hx.2 hy.2) (show 8388608 + 8388608 ≤ 33554432 by omega))
  have HSUM := hide (show len 1000000000 (x.num.natAbs * y.den + y.num.natAbs * x.den) ≤ 33554432 from Nat.le_trans (len_add (by omega) _ _) (by omega))
  have HSUB1 := hide (show len 1000000000 (x.num.natAbs * y.den - y.num.natAbs * x.den) ≤ 33554432 from Nat.le_trans (len_mono (by omega) (Nat.sub_le _ _)) (by omega))
  have HSUB2 := hide (show len 1000000000 (y.num.natAbs * x.den - x.num.natAbs * y.den) ≤ 33554432 from Nat.le_trans (len_mono (by omega) (Nat.sub_le _ _)) (by omega))
  have HPOS := hide (show 0 < x.den * y.den from Nat.mul_pos x.den_pos y.den_pos)
  have HAN := hide ha1
  have HAD := hide ha2
  have HBN := hide hb1
  have HBD := hide hb2
  have HG1 := hide hg1
  have HG2 := hide hg2
  clear ha1 ha2 hb1 hb2 hx hy hg1 hg2 hl1 hl2
  have HRES : Hid (RefRes ((((w.alloc (.cells #[.bool g1, .slice A1 n1 c1, .slice B1 m1 d1] 42)).alloc (.cells #[.bool g2, .slice A2 n2 c2, .slice B2 m2 d2] 42)).alloc (.cells #[.bool false, .slice none 0 0, .slice none 0 0] 42)).drew) (w.heap.size + 1 + 1)) := by
    have h := (Blk.new ((w.alloc (.cells #[.bool g1, .slice A1 n1 c1, .slice B1 m1 d1] 42)).alloc (.cells #[.bool g2, .slice A2 n2 c2, .slice B2 m2 d2] 42)) 42 #[.bool false, .slice none 0 0, .slice none 0 0]).drew
    simp only [World.size_alloc] at h
    exact ⟨_, _, _, _, _, _, _, h⟩
  have HWX : Hid (Below w.heap.size w ((((w.alloc (.cells #[.bool g1, .slice A1 n1 c1, .slice B1 m1 d1] 42)).alloc (.cells #[.bool g2, .slice A2 n2 c2, .slice B2 m2 d2] 42)).alloc (.cells #[.bool false, .slice none 0 0, .slice none 0 0] 42)).drew)) := hide (below_drewN (ext (ext (ext_alloc w (.cells #[.bool g1, .slice A1 n1 c1, .slice B1 m1 d1] 42)) (ext_alloc _ (.cells #[.bool g2, .slice A2 n2 c2, .slice B2 m2 d2] 42))) (ext_alloc _ (.cells #[.bool false, .slice none 0 0, .slice none 0 0] 42))) 1)
  go_enter Tryz.func49, Tryz.ntmps49
  go_wp2_with fail
  go_region_held3 (fun w' => w'.cell? ⟨w.heap.size, 0, none⟩ = some (.bool g1) ∧ w'.cell? ⟨w.heap.size, 1, none⟩ = some (.slice A1 n1 c1) ∧ w'.cell? ⟨w.heap.size, 2, none⟩ = some (.slice B1 m1 d1) ∧ w'.cell? ⟨w.heap.size + 1, 0, none⟩ = some (.bool g2) ∧ w'.cell? ⟨w.heap.size + 1, 1, none⟩ = some (.slice A2 n2 c2) ∧ w'.cell? ⟨w.heap.size + 1, 2, none⟩ = some (.slice B2 m2 d2) ∧ w.heap.size < w'.heap.size ∧ w.heap.size + 1 < w'.heap.size ∧ Hid (RefRes w' (w.heap.size + 1 + 1)) ∧ Hid (Below w.heap.size w w'))
    (first
      | with_reducible exact ⟨by go_keep, by go_keep, by go_keep, by go_keep, by go_keep, by go_keep, by first | (simp; done) | (simp; omega), by first | (simp; done) | (simp; omega), HRES, HWX⟩
      | (go_split_ands; with_reducible exact ⟨ref_cell (by omega) (by assumption), ref_cell (by omega) (by assumption), ref_cell (by omega) (by assumption), ref_cell (by omega) (by assumption), ref_cell (by omega) (by assumption), ref_cell (by omega) (by assumption), ref_hsize (by assumption), ref_hsize (by assumption), hid_rres_ref (by assumption), hid_below_ref (by omega) (by assumption)⟩)
      | (go_split_ands; with_reducible exact ⟨cell_keep (by assumption) (by assumption) (by assumption), cell_keep (by assumption) (by assumption) (by assumption), cell_keep (by assumption) (by assumption) (by assumption), cell_keep (by assumption) (by assumption) (by assumption), cell_keep (by assumption) (by assumption) (by assumption), cell_keep (by assumption) (by assumption) (by assumption), size_keep (by assumption) (by assumption), size_keep (by assumption) (by assumption), hid_rres (by assumption) (by assumption), hid_below (by assumption) (by assumption)⟩)
      | go_keep)
    (first
      | (go_at_call_of 73 (Value.slice A1 n1 c1); refine (ref_times _ _ x.num.natAbs y.den _ (SizIs.below HAN.out (unhide (by go_split_ands; assumption))) (SizIs.below HBD.out (unhide (by go_split_ands; assumption))) HX1.out HY2.out).mono ?_; rintro e w1 ⟨v1, rfl, hv1, hb1⟩; have HM1 := hide hv1; clear hv1; try replace HM2 := hide (SizIs.below HM2.out hb1))
      | (go_at_call_of 73 (Value.slice A2 n2 c2); refine (ref_times _ _ y.num.natAbs x.den _ (SizIs.below HBN.out (unhide (by go_split_ands; assumption))) (SizIs.below HAD.out (unhide (by go_split_ands; assumption))) HY1.out HX2.out).mono ?_; rintro e w2 ⟨v2, rfl, hv2, hb2⟩; have HM2 := hide hv2; clear hv2; try replace HM1 := hide (SizIs.below HM1.out hb2)))
  all_goals
    go_split_ands
    have HW1 : Hid (Below w.heap.size w w2) := by assumption
    have HR1 : Hid (RefRes w2 (w.heap.size + 1 + 1)) := by assumption
    go_wp2_with fail
    refine (ref_times _ _ x.den y.den w2 (SizIs.below HAD.out HW1.out) (SizIs.below HBD.out HW1.out) HX2.out HY2.out).mono ?_
    rintro e W2 ⟨v3, rfl, hv3, hb3⟩
    have HM3 := hide hv3
    have HM1' := hide (SizIs.below HM1.out hb3)
    have HM2' := hide (SizIs.below HM2.out hb3)
    have HW2 := hide (ext HW1.out hb3)
    have HR2 := hid_rres hb3 HR1
    have j0 : W2.cell? ⟨w.heap.size, 0, none⟩ = some (.bool g1) := cell_keep hb3 (by assumption) (by assumption)
    have j1 : W2.cell? ⟨w.heap.size, 1, none⟩ = some (.slice A1 n1 c1) := cell_keep hb3 (by assumption) (by assumption)
    have j2 : W2.cell? ⟨w.heap.size, 2, none⟩ = some (.slice B1 m1 d1) := cell_keep hb3 (by assumption) (by assumption)
    have j3 : W2.cell? ⟨w.heap.size + 1, 0, none⟩ = some (.bool g2) := cell_keep hb3 (by assumption) (by assumption)
    have j4 : W2.cell? ⟨w.heap.size + 1, 1, none⟩ = some (.slice A2 n2 c2) := cell_keep hb3 (by assumption) (by assumption)
    have j5 : W2.cell? ⟨w.heap.size + 1, 2, none⟩ = some (.slice B2 m2 d2) := cell_keep hb3 (by assumption) (by assumption)
    have l0 : w.heap.size < W2.heap.size := size_keep hb3 (by assumption)
    have l1 : w.heap.size + 1 < W2.heap.size := size_keep hb3 (by assumption)
    clear hv3 hb3 HM1 HM2 HR1 HW1 HRES HWX
    have HM1 := HM1'
    have HM2 := HM2'
    clear HM1' HM2'
    by_cases hgg : g1 = g2
    · have hgI : (g1 == g2) = true := by rw [beq_iff_eq]; exact hgg
      have HEQ := hide (ref_add_same (x := x) (y := y) (by rw [← HG1.out, ← HG2.out]; exact hgg))
      rw [← HG1.out] at HEQ
      have HLS := HSUM
      clear hgg
      go_wp2_with fail
      have HRES := hide (show RefRes W2.drew (w.heap.size + 1 + 1) from HR2.out)
      have HWX := hide (show Below w.heap.size w W2.drew from below_drewN HW2.out 1)
      go_region_held3 (fun w' => w'.cell? ⟨w.heap.size, 0, none⟩ = some (.bool g1) ∧ w'.cell? ⟨w.heap.size, 1, none⟩ = some (.slice A1 n1 c1) ∧ w'.cell? ⟨w.heap.size, 2, none⟩ = some (.slice B1 m1 d1) ∧ w'.cell? ⟨w.heap.size + 1, 0, none⟩ = some (.bool g2) ∧ w'.cell? ⟨w.heap.size + 1, 1, none⟩ = some (.slice A2 n2 c2) ∧ w'.cell? ⟨w.heap.size + 1, 2, none⟩ = some (.slice B2 m2 d2) ∧ w.heap.size < w'.heap.size ∧ w.heap.size + 1 < w'.heap.size ∧ Hid (RefRes w' (w.heap.size + 1 + 1)) ∧ Hid (Below w.heap.size w w'))
        (first
          | with_reducible exact ⟨by go_keep, by go_keep, by go_keep, by go_keep, by go_keep, by go_keep, by assumption, by assumption, HRES, HWX⟩
          | (go_split_ands; with_reducible exact ⟨ref_cell (by omega) (by assumption), ref_cell (by omega) (by assumption), ref_cell (by omega) (by assumption), ref_cell (by omega) (by assumption), ref_cell (by omega) (by assumption), ref_cell (by omega) (by assumption), ref_hsize (by assumption), ref_hsize (by assumption), hid_rres_ref (by assumption), hid_below_ref (by omega) (by assumption)⟩)
          | (go_split_ands; with_reducible exact ⟨cell_keep (by assumption) (by assumption) (by assumption), cell_keep (by assumption) (by assumption) (by assumption), cell_keep (by assumption) (by assumption) (by assumption), cell_keep (by assumption) (by assumption) (by assumption), cell_keep (by assumption) (by assumption) (by assumption), cell_keep (by assumption) (by assumption) (by assumption), size_keep (by assumption) (by assumption), size_keep (by assumption) (by assumption), hid_rres (by assumption) (by assumption), hid_below (by assumption) (by assumption)⟩)
          | go_keep)
        (first
          | (go_at_call 74; refine (ref_plus _ _ (x.num.natAbs * y.den) (y.num.natAbs * x.den) _ (SizIs.below HM1.out (show Below W2.heap.size W2 W2.drew from ext_drewN W2 1)) (SizIs.below HM2.out (show Below W2.heap.size W2 W2.drew from ext_drewN W2 1)) HLA.out HLB.out).mono ?_; rintro e w5 ⟨v5, rfl, hv5, hb5⟩; have HM5 := hide hv5; have HM3b := hide (SizIs.below HM3.out (ext (show Below W2.heap.size W2 W2.drew from ext_drewN W2 1) hb5)); clear hv5)
          | (go_at_call 71; refine (ref_lowest _ _ _ (x.num.natAbs * y.den + y.num.natAbs * x.den) (x.den * y.den) _ HM5.out HM3b.out HPOS.out HLS.out HLL.out).mono ?_; rintro e wo ⟨vo, rfl, ⟨g5, A5, n5, c5, B5, m5, d5, rfl, hq0, hq1, hq2⟩, hbo⟩; obtain ⟨gr, Ar, kr, cr, Br, krx, crx, kR⟩ := (hid_rres (g := w.heap.size + 1 + 1) hbo (by go_split_ands; assumption)).out; have r0 := kR.cell 0; have r1 := kR.cell 1; have r2 := kR.cell 2; have f0 := kR.frozen 0; have f1 := kR.frozen 1; have f2 := kR.frozen 2; simp at r0 r1 r2; have HQ0 := hide hq0; have HQ1 := hide hq1; have HQ2 := hide hq2; have HKR := hide kR; clear hq0 hq1 hq2 kR))
      all_goals
        go_split_ands
        have kR2 := ref_blk (ng := g5) (A := A5) (n := n5) (c := c5) (B := B5) (m := m5) (d := d5) HKR.out
        have hR1 := ref_stored (ng := g5) (A := A5) (n := n5) (c := c5) (B := B5) (m := m5) (d := d5) HQ1.out HKR.out
        have hR2 := ref_stored (ng := g5) (A := A5) (n := n5) (c := c5) (B := B5) (m := m5) (d := d5) HQ2.out HKR.out
        have hRW := unhide (by assumption : Hid (Below w.heap.size w (World.ref wo (w.heap.size + 1 + 1) g5 A5 n5 c5 B5 m5 d5)))
        have e0 := kR2.cell 0
        have e1 := kR2.cell 1
        have e2 := kR2.cell 2
        simp only [World.ref] at e0 e1 e2
        simp at e0 e1 e2
        go_wp2
        refine bodyPost_ret (v := .agg #[.bool g5, .slice A5 n5 c5, .slice B5 m5 d5]) (by simp [results, Tryz.results49, go_sem, e0, e1, e2]) rfl ?_
        exact ⟨_, rfl, ⟨_, _, _, _, _, _, _, rfl, (by rw [HEQ.out]; exact HQ0.out), (by rw [HEQ.out]; exact hR1), (by rw [HEQ.out]; exact hR2)⟩, hRW⟩
    · have hgI : (g1 == g2) = false := by rw [beq_eq_false_iff_ne]; exact hgg
      have HNE := hide (show decide (x.num < 0) ≠ decide (y.num < 0) by rw [← HG1.out, ← HG2.out]; exact hgg)
      clear hgg
      by_cases hle : y.num.natAbs * x.den ≤ x.num.natAbs * y.den
      · have hc0 : 0 ≤ cmpOf ((x.num.natAbs * y.den : Nat) : Int) ((y.num.natAbs * x.den : Nat) : Int) := of_decide_eq_true (by rw [cmp_ge9, decide_eq_true hle])
        have HEQ := hide (ref_add_ge HNE.out hle)
        have HLE := hide hle
        rw [← HG1.out] at HEQ
        have HLS := HSUB1
        clear hle
        go_wp2_with fail
        refine (ref_order _ _ (x.num.natAbs * y.den) (y.num.natAbs * x.den) W2 HM1.out HM2.out HLA.out HLB.out).mono ?_
        rintro e W3 ⟨rfl, n, rfl⟩
        generalize cmpOf ((x.num.natAbs * y.den : Nat) : Int) ((y.num.natAbs * x.den : Nat) : Int) = cv at hc0 ⊢
        have hb3 := ext_drewN W2 n
        have HM1' := hide (SizIs.below HM1.out hb3)
        have HM2' := hide (SizIs.below HM2.out hb3)
        have HM3' := hide (SizIs.below HM3.out hb3)
        have HW2' := hide (ext HW2.out hb3)
        have HR2' := hid_rres hb3 HR2
        have j0' := cell_keep hb3 l0 j0
        have j1' := cell_keep hb3 l0 j1
        have j2' := cell_keep hb3 l0 j2
        have j3' := cell_keep hb3 l1 j3
        have j4' := cell_keep hb3 l1 j4
        have j5' := cell_keep hb3 l1 j5
        have l0' := size_keep hb3 l0
        have l1' := size_keep hb3 l1
        clear hb3 HM1 HM2 HM3 HW2 HR2 j0 j1 j2 j3 j4 j5 l0 l1
        generalize W2.drewN n = W2 at HM1' HM2' HM3' HW2' HR2' j0' j1' j2' j3' j4' j5' l0' l1' ⊢
        have HM1 := HM1'
        have HM2 := HM2'
        have HM3 := HM3'
        have HW2 := HW2'
        have HR2 := HR2'
        clear HM1' HM2' HM3' HW2' HR2'
        go_wp2_with fail
        have HRES := hide (show RefRes W2.drew (w.heap.size + 1 + 1) from HR2.out)
        have HWX := hide (show Below w.heap.size w W2.drew from below_drewN HW2.out 1)
        go_region_held3 (fun w' => w'.cell? ⟨w.heap.size, 0, none⟩ = some (.bool g1) ∧ w'.cell? ⟨w.heap.size, 1, none⟩ = some (.slice A1 n1 c1) ∧ w'.cell? ⟨w.heap.size, 2, none⟩ = some (.slice B1 m1 d1) ∧ w'.cell? ⟨w.heap.size + 1, 0, none⟩ = some (.bool g2) ∧ w'.cell? ⟨w.heap.size + 1, 1, none⟩ = some (.slice A2 n2 c2) ∧ w'.cell? ⟨w.heap.size + 1, 2, none⟩ = some (.slice B2 m2 d2) ∧ w.heap.size < w'.heap.size ∧ w.heap.size + 1 < w'.heap.size ∧ Hid (RefRes w' (w.heap.size + 1 + 1)) ∧ Hid (Below w.heap.size w w'))
          (first
            | with_reducible exact ⟨by go_keep, by go_keep, by go_keep, by go_keep, by go_keep, by go_keep, by assumption, by assumption, HRES, HWX⟩
            | (go_split_ands; with_reducible exact ⟨ref_cell (by omega) (by assumption), ref_cell (by omega) (by assumption), ref_cell (by omega) (by assumption), ref_cell (by omega) (by assumption), ref_cell (by omega) (by assumption), ref_cell (by omega) (by assumption), ref_hsize (by assumption), ref_hsize (by assumption), hid_rres_ref (by assumption), hid_below_ref (by omega) (by assumption)⟩)
            | (go_split_ands; with_reducible exact ⟨cell_keep (by assumption) (by assumption) (by assumption), cell_keep (by assumption) (by assumption) (by assumption), cell_keep (by assumption) (by assumption) (by assumption), cell_keep (by assumption) (by assumption) (by assumption), cell_keep (by assumption) (by assumption) (by assumption), cell_keep (by assumption) (by assumption) (by assumption), size_keep (by assumption) (by assumption), size_keep (by assumption) (by assumption), hid_rres (by assumption) (by assumption), hid_below (by assumption) (by assumption)⟩)
            | go_keep)
          (first
            | (go_at_call 76; refine (ref_minus _ _ (x.num.natAbs * y.den) (y.num.natAbs * x.den) _ (SizIs.below HM1.out (show Below W2.heap.size W2 W2.drew from ext_drewN W2 1)) (SizIs.below HM2.out (show Below W2.heap.size W2 W2.drew from ext_drewN W2 1)) HLE.out HLA.out).mono ?_; rintro e w5 ⟨v5, rfl, hv5, hb5⟩; have HM5 := hide hv5; have HM3b := hide (SizIs.below HM3.out (ext (show Below W2.heap.size W2 W2.drew from ext_drewN W2 1) hb5)); clear hv5)
            | (go_at_call 71; refine (ref_lowest _ _ _ (x.num.natAbs * y.den - y.num.natAbs * x.den) (x.den * y.den) _ HM5.out HM3b.out HPOS.out HLS.out HLL.out).mono ?_; rintro e wo ⟨vo, rfl, ⟨g5, A5, n5, c5, B5, m5, d5, rfl, hq0, hq1, hq2⟩, hbo⟩; obtain ⟨gr, Ar, kr, cr, Br, krx, crx, kR⟩ := (hid_rres (g := w.heap.size + 1 + 1) hbo (by go_split_ands; assumption)).out; have r0 := kR.cell 0; have r1 := kR.cell 1; have r2 := kR.cell 2; have f0 := kR.frozen 0; have f1 := kR.frozen 1; have f2 := kR.frozen 2; simp at r0 r1 r2; have HQ0 := hide hq0; have HQ1 := hide hq1; have HQ2 := hide hq2; have HKR := hide kR; clear hq0 hq1 hq2 kR))
        all_goals
          go_split_ands
          have kR2 := ref_blk (ng := g5) (A := A5) (n := n5) (c := c5) (B := B5) (m := m5) (d := d5) HKR.out
          have hR1 := ref_stored (ng := g5) (A := A5) (n := n5) (c := c5) (B := B5) (m := m5) (d := d5) HQ1.out HKR.out
          have hR2 := ref_stored (ng := g5) (A := A5) (n := n5) (c := c5) (B := B5) (m := m5) (d := d5) HQ2.out HKR.out
          have hRW := unhide (by assumption : Hid (Below w.heap.size w (World.ref wo (w.heap.size + 1 + 1) g5 A5 n5 c5 B5 m5 d5)))
          have e0 := kR2.cell 0
          have e1 := kR2.cell 1
          have e2 := kR2.cell 2
          simp only [World.ref] at e0 e1 e2
          simp at e0 e1 e2
          go_wp2
          refine bodyPost_ret (v := .agg #[.bool g5, .slice A5 n5 c5, .slice B5 m5 d5]) (by simp [results, Tryz.results49, go_sem, e0, e1, e2]) rfl ?_
          exact ⟨_, rfl, ⟨_, _, _, _, _, _, _, rfl, (by rw [HEQ.out]; exact HQ0.out), (by rw [HEQ.out]; exact hR1), (by rw [HEQ.out]; exact hR2)⟩, hRW⟩
      · have hc0 : ¬ 0 ≤ cmpOf ((x.num.natAbs * y.den : Nat) : Int) ((y.num.natAbs * x.den : Nat) : Int) := of_decide_eq_false (by rw [cmp_ge9, decide_eq_false hle])
        have HEQ := hide (ref_add_lt HNE.out (Nat.lt_of_not_le hle))
        have HLE := hide (Nat.le_of_lt (Nat.lt_of_not_le hle))
        rw [← HG2.out] at HEQ
        have HLS := HSUB2
        clear hle
        go_wp2_with fail
        refine (ref_order _ _ (x.num.natAbs * y.den) (y.num.natAbs * x.den) W2 HM1.out HM2.out HLA.out HLB.out).mono ?_
        rintro e W3 ⟨rfl, n, rfl⟩
        generalize cmpOf ((x.num.natAbs * y.den : Nat) : Int) ((y.num.natAbs * x.den : Nat) : Int) = cv at hc0 ⊢
        have hb3 := ext_drewN W2 n
        have HM1' := hide (SizIs.below HM1.out hb3)
        have HM2' := hide (SizIs.below HM2.out hb3)
        have HM3' := hide (SizIs.below HM3.out hb3)
        have HW2' := hide (ext HW2.out hb3)
        have HR2' := hid_rres hb3 HR2
        have j0' := cell_keep hb3 l0 j0
        have j1' := cell_keep hb3 l0 j1
        have j2' := cell_keep hb3 l0 j2
        have j3' := cell_keep hb3 l1 j3
        have j4' := cell_keep hb3 l1 j4
        have j5' := cell_keep hb3 l1 j5
        have l0' := size_keep hb3 l0
        have l1' := size_keep hb3 l1
        clear hb3 HM1 HM2 HM3 HW2 HR2 j0 j1 j2 j3 j4 j5 l0 l1
        generalize W2.drewN n = W2 at HM1' HM2' HM3' HW2' HR2' j0' j1' j2' j3' j4' j5' l0' l1' ⊢
        have HM1 := HM1'
        have HM2 := HM2'
        have HM3 := HM3'
        have HW2 := HW2'
        have HR2 := HR2'
        clear HM1' HM2' HM3' HW2' HR2'
        go_wp2_with fail
        have HRES := hide (show RefRes W2.drew (w.heap.size + 1 + 1) from HR2.out)
        have HWX := hide (show Below w.heap.size w W2.drew from below_drewN HW2.out 1)
        go_region_held3 (fun w' => w'.cell? ⟨w.heap.size, 0, none⟩ = some (.bool g1) ∧ w'.cell? ⟨w.heap.size, 1, none⟩ = some (.slice A1 n1 c1) ∧ w'.cell? ⟨w.heap.size, 2, none⟩ = some (.slice B1 m1 d1) ∧ w'.cell? ⟨w.heap.size + 1, 0, none⟩ = some (.bool g2) ∧ w'.cell? ⟨w.heap.size + 1, 1, none⟩ = some (.slice A2 n2 c2) ∧ w'.cell? ⟨w.heap.size + 1, 2, none⟩ = some (.slice B2 m2 d2) ∧ w.heap.size < w'.heap.size ∧ w.heap.size + 1 < w'.heap.size ∧ Hid (RefRes w' (w.heap.size + 1 + 1)) ∧ Hid (Below w.heap.size w w'))
          (first
            | with_reducible exact ⟨by go_keep, by go_keep, by go_keep, by go_keep, by go_keep, by go_keep, by assumption, by assumption, HRES, HWX⟩
            | (go_split_ands; with_reducible exact ⟨ref_cell (by omega) (by assumption), ref_cell (by omega) (by assumption), ref_cell (by omega) (by assumption), ref_cell (by omega) (by assumption), ref_cell (by omega) (by assumption), ref_cell (by omega) (by assumption), ref_hsize (by assumption), ref_hsize (by assumption), hid_rres_ref (by assumption), hid_below_ref (by omega) (by assumption)⟩)
            | (go_split_ands; with_reducible exact ⟨cell_keep (by assumption) (by assumption) (by assumption), cell_keep (by assumption) (by assumption) (by assumption), cell_keep (by assumption) (by assumption) (by assumption), cell_keep (by assumption) (by assumption) (by assumption), cell_keep (by assumption) (by assumption) (by assumption), cell_keep (by assumption) (by assumption) (by assumption), size_keep (by assumption) (by assumption), size_keep (by assumption) (by assumption), hid_rres (by assumption) (by assumption), hid_below (by assumption) (by assumption)⟩)
            | go_keep)
          (first
            | (go_at_call 76; refine (ref_minus _ _ (y.num.natAbs * x.den) (x.num.natAbs * y.den) _ (SizIs.below HM2.out (show Below W2.heap.size W2 W2.drew from ext_drewN W2 1)) (SizIs.below HM1.out (show Below W2.heap.size W2 W2.drew from ext_drewN W2 1)) HLE.out HLB.out).mono ?_; rintro e w5 ⟨v5, rfl, hv5, hb5⟩; have HM5 := hide hv5; have HM3b := hide (SizIs.below HM3.out (ext (show Below W2.heap.size W2 W2.drew from ext_drewN W2 1) hb5)); clear hv5)
            | (go_at_call 71; refine (ref_lowest _ _ _ (y.num.natAbs * x.den - x.num.natAbs * y.den) (x.den * y.den) _ HM5.out HM3b.out HPOS.out HLS.out HLL.out).mono ?_; rintro e wo ⟨vo, rfl, ⟨g5, A5, n5, c5, B5, m5, d5, rfl, hq0, hq1, hq2⟩, hbo⟩; obtain ⟨gr, Ar, kr, cr, Br, krx, crx, kR⟩ := (hid_rres (g := w.heap.size + 1 + 1) hbo (by go_split_ands; assumption)).out; have r0 := kR.cell 0; have r1 := kR.cell 1; have r2 := kR.cell 2; have f0 := kR.frozen 0; have f1 := kR.frozen 1; have f2 := kR.frozen 2; simp at r0 r1 r2; have HQ0 := hide hq0; have HQ1 := hide hq1; have HQ2 := hide hq2; have HKR := hide kR; clear hq0 hq1 hq2 kR))
        all_goals
          go_split_ands
          have kR2 := ref_blk (ng := g5) (A := A5) (n := n5) (c := c5) (B := B5) (m := m5) (d := d5) HKR.out
          have hR1 := ref_stored (ng := g5) (A := A5) (n := n5) (c := c5) (B := B5) (m := m5) (d := d5) HQ1.out HKR.out
          have hR2 := ref_stored (ng := g5) (A := A5) (n := n5) (c := c5) (B := B5) (m := m5) (d := d5) HQ2.out HKR.out
          have hRW := unhide (by assumption : Hid (Below w.heap.size w (World.ref wo (w.heap.size + 1 + 1) g5 A5 n5 c5 B5 m5 d5)))
          have e0 := kR2.cell 0
          have e1 := kR2.cell 1
          have e2 := kR2.cell 2
          simp only [World.ref] at e0 e1 e2
          simp at e0 e1 e2
          go_wp2
          refine bodyPost_ret (v := .agg #[.bool g5, .slice A5 n5 c5, .slice B5 m5 d5]) (by simp [results, Tryz.results49, go_sem, e0, e1, e2]) rfl ?_
          exact ⟨_, rfl, ⟨_, _, _, _, _, _, _, rfl, (by rw [HEQ.out]; exact HQ0.out), (by rw [HEQ.out]; exact hR1), (by rw [HEQ.out]; exact hR2)⟩, hRW⟩
end Go.Proofs.YtmeagiodcnfmgaaGreat
namespace Go.Proofs.YtmeagiodcnfmgaaGreat
open Go.RowKit Go.Deep
attribute [local go_sem ↓] Go.wp_at_zero Go.wp_at_succ
set_option maxRecDepth 100000 in
set_option maxHeartbeats 8000000 in
theorem ref_order_num (va vb : Value) (x y : Rat) (w : World) (ha : RefIs w va x) (hb : RefIs w vb y) (hx : NLen 8388608 x) (hy : NLen 8388608 y) :
    Calls Tryz.prog 34 #[va, vb] w (RetB w (.int .i64 (x - y).num.sign)) := by
  have HEQ := hide (Rat.sub_eq_add_neg x y)
  have HX0 := hide ha
  have HY0 := hide hb
  obtain ⟨g1, A1, n1, c1, B1, m1, d1, rfl, hg1, ha1, ha2⟩ := ha
  obtain ⟨g2, A2, n2, c2, B2, m2, d2, rfl, hg2, hb1, hb2⟩ := hb
  have HX := hide hx
  have HY := hide hy.neg
  clear ha1 ha2 hb1 hb2 hx hy hg1 hg2
  have HWX : Hid (Below w.heap.size w (((w.alloc (.cells #[.bool g1, .slice A1 n1 c1, .slice B1 m1 d1] 42)).alloc (.cells #[.bool g2, .slice A2 n2 c2, .slice B2 m2 d2] 42)).drew)) := hide (below_drewN (ext (ext_alloc w (.cells #[.bool g1, .slice A1 n1 c1, .slice B1 m1 d1] 42)) (ext_alloc _ (.cells #[.bool g2, .slice A2 n2 c2, .slice B2 m2 d2] 42))) 1)
  go_enter Tryz.func34, Tryz.ntmps34
  go_wp2_with fail
  go_region_held3 (fun w' => w'.cell? ⟨w.heap.size, 0, none⟩ = some (.bool g1) ∧ w'.cell? ⟨w.heap.size, 1, none⟩ = some (.slice A1 n1 c1) ∧ w'.cell? ⟨w.heap.size, 2, none⟩ = some (.slice B1 m1 d1) ∧ w'.cell? ⟨w.heap.size + 1, 0, none⟩ = some (.bool g2) ∧ w'.cell? ⟨w.heap.size + 1, 1, none⟩ = some (.slice A2 n2 c2) ∧ w'.cell? ⟨w.heap.size + 1, 2, none⟩ = some (.slice B2 m2 d2) ∧ w.heap.size < w'.heap.size ∧ w.heap.size + 1 < w'.heap.size ∧ Hid (Below w.heap.size w w'))
    (first
      | with_reducible exact ⟨by go_keep, by go_keep, by go_keep, by go_keep, by go_keep, by go_keep, by first | (simp; done) | (simp; omega), by first | (simp; done) | (simp; omega), HWX⟩
      | (go_split_ands; with_reducible exact ⟨cell_keep (by assumption) (by assumption) (by assumption), cell_keep (by assumption) (by assumption) (by assumption), cell_keep (by assumption) (by assumption) (by assumption), cell_keep (by assumption) (by assumption) (by assumption), cell_keep (by assumption) (by assumption) (by assumption), cell_keep (by assumption) (by assumption) (by assumption), size_keep (by assumption) (by assumption), size_keep (by assumption) (by assumption), hid_below (by assumption) (by assumption)⟩)
      | go_keep)
    (first
      | (go_at_call 50; refine (ref_neg_num _ y _ (HY0.out.below (unhide (by go_split_ands; assumption)))).mono ?_; rintro e w1 ⟨v1, rfl, hv1, hb1⟩; have HM1 := hide hv1; clear hv1)
      | (go_at_call 49; refine (ref_plus_num _ _ x (-y) _ (HX0.out.below (unhide (by go_split_ands; assumption))) HM1.out HX.out HY.out).mono ?_; rintro e w2 ⟨v2, rfl, hv2, hb2⟩; have HM2 := hide hv2; clear hv2)
      | (go_at_call 32; refine (ref_sign _ (x + -y) _ HM2.out).mono ?_; rintro e w3 ⟨rfl, hb3⟩))
  all_goals
    go_split_ands
    have hRW := unhide (by assumption : Hid (Below w.heap.size w w3))
    go_wp2
    go_ret
    exact ⟨ret_i64' (by rw [HEQ.out]), hRW⟩
end Go.Proofs.YtmeagiodcnfmgaaGreat
namespace Go.Proofs.YtmeagiodcnfmgaaGreat
open Go.RowKit Go.Deep
attribute [local go_sem ↓] Go.wp_at_zero Go.wp_at_succ
theorem ref_short_or (M : Nat) (q : Rat) : (!decide (Short M q)) = (decide (M < (dec q.num.natAbs).length) || decide (M < (dec q.den).length)) := by
  by_cases h1 : (dec q.num.natAbs).length ≤ M
  · by_cases h2 : (dec q.den).length ≤ M
    · rw [decide_eq_true (show Short M q from ⟨h1, h2⟩), decide_eq_false (by omega), decide_eq_false (by omega)]; rfl
    · rw [decide_eq_false (fun h : Short M q => h2 h.2), decide_eq_true (show M < (dec q.den).length by omega), Bool.or_true]; rfl
  · rw [decide_eq_false (fun h : Short M q => h1 h.1), decide_eq_true (show M < (dec q.num.natAbs).length by omega)]; rfl
set_option maxRecDepth 100000 in
set_option maxHeartbeats 4000000 in
theorem ref_long (va : Value) (q : Rat) (M : Nat) (w : World) (ha : RefIs w va q) (hl : NLen 33554432 q) (hM : M ≤ 50000) :
    Calls Tryz.prog 92 #[va, .int .i64 (M : Int)] w (RetB w (.bool (!decide (Short M q)))) := by
  obtain ⟨ng, A, c, B, d, rfl, hng, ha1, ha2⟩ := ha.form
  have HB := hide (ext_alloc w (.cells #[.bool ng, .slice A (len 1000000000 q.num.natAbs) c, .slice B (len 1000000000 q.den) d] 42))
  have HA := hide (SizIs.below ha1 HB.out)
  have HD := hide (SizIs.below ha2 HB.out)
  have HL1 := hide hl.1
  have HL2 := hide hl.2
  have HS := hide (ref_short_or M q)
  generalize len 1000000000 q.num.natAbs = n at HA HB HD ⊢
  generalize len 1000000000 q.den = m at HA HB HD ⊢
  clear ha ha1 ha2 hng hl
  by_cases g1 : M < (dec q.num.natAbs).length
  · have HS' := hide (show (!decide (Short M q)) = true by rw [HS.out, decide_eq_true g1]; rfl)
    clear HS
    go_enter Tryz.func92, Tryz.ntmps92
    go_wp2_with fail
    refine (ref_written _ q.num.natAbs _ HA.out HL1.out).mono ?_
    rintro e w1 ⟨rfl, rfl⟩
    go_wp2_with fail
    go_ret
    exact ⟨ret_bool HS'.out, HB.out⟩
  · by_cases g2 : M < (dec q.den).length
    · have HS' := hide (show (!decide (Short M q)) = true by rw [HS.out, decide_eq_true g2, Bool.or_true])
      clear HS
      go_enter Tryz.func92, Tryz.ntmps92
      go_wp2_with fail
      refine (ref_written _ q.num.natAbs _ HA.out HL1.out).mono ?_
      rintro e w1 ⟨rfl, rfl⟩
      go_wp2_with fail
      refine (ref_written _ q.den _ HD.out HL2.out).mono ?_
      rintro e w1 ⟨rfl, rfl⟩
      go_wp2_with fail
      go_ret
      exact ⟨ret_bool HS'.out, HB.out⟩
    · have HS' := hide (show (!decide (Short M q)) = false by rw [HS.out, decide_eq_false g1, decide_eq_false g2]; rfl)
      clear HS
      go_enter Tryz.func92, Tryz.ntmps92
      go_wp2_with fail
      refine (ref_written _ q.num.natAbs _ HA.out HL1.out).mono ?_
      rintro e w1 ⟨rfl, rfl⟩
      go_wp2_with fail
      refine (ref_written _ q.den _ HD.out HL2.out).mono ?_
      rintro e w1 ⟨rfl, rfl⟩
      go_wp2_with fail
      go_ret
      exact ⟨ret_bool HS'.out, HB.out⟩
/-- A number of the reference that was read is short. -/
theorem read_nlen {l : List UInt8} {q : Rat} (h : readFrac l = some q) : NLen 50000 q := by
  have := (readFrac_some.1 h).2
  exact ⟨Nat.le_trans (len_le_dec (by omega)) this.1, Nat.le_trans (len_le_dec (by omega)) this.2⟩
set_option maxRecDepth 100000 in
set_option maxHeartbeats 4000000 in
theorem ref_entered (s : ByteArray) (w : World) (hs : s.size ≤ 1073741824) :
    Calls Tryz.prog 67 #[.string s] w (RetB w (.int .i64 (numErr (bts s)))) := by
  have hnum := ref_number s w hs
  cases hr : readFrac (bts s) with
  | none =>
    have HE := hide (show numErr (bts s) = 4 by unfold numErr; rw [hr])
    have HR := hide hr
    clear hr
    go_enter Tryz.func67, Tryz.ntmps67
    go_wp2_with fail
    refine hnum.mono ?_
    rintro e w1 ⟨v, b, rfl, ⟨ng, A, n, c, B, m, d, rfl⟩, hb, _, hb1⟩
    rw [HR.out] at hb
    subst hb
    have HB := hide (ext hb1 (ext_alloc w1 (.cells #[.bool ng, .slice A n c, .slice B m d] 42)))
    clear hb1 hnum
    go_wp2_with fail
    go_ret
    exact ⟨ret_i64' HE.out, HB.out⟩
  | some q =>
    have HR := hide hr
    have HQL := hide (NLen.mono (read_nlen hr) (show 50000 ≤ 33554432 by omega))
    have HE := hide (show numErr (bts s) = if (!decide (Short 12 q)) = true then 3 else 0 by
      unfold numErr; rw [hr]; by_cases h : Short 12 q <;> simp [h])
    clear hr
    go_enter Tryz.func67, Tryz.ntmps67
    go_wp2_with fail
    refine hnum.mono ?_
    rintro e w1 ⟨v, b, rfl, ⟨ng, A, n, c, B, m, d, rfl⟩, hb, hq, hb1⟩
    rw [HR.out] at hb
    subst hb
    have hx := ext_alloc w1 (.cells #[.bool ng, .slice A n c, .slice B m d] 42)
    have HB := hide (ext hb1 hx)
    have HQ := hide (RefIs.below (hq q HR.out) hx)
    clear hb1 hnum hq hx
    go_wp2_with fail
    refine (ref_long _ q 12 _ HQ.out HQL.out (by omega)).mono ?_
    rintro e w2 ⟨rfl, hb2⟩
    have HB2 := hide (ext HB.out hb2)
    clear hb2
    cases hsh : (!decide (Short 12 q)) with
    | true =>
      have HE2 := hide (HE.out.trans (by rw [hsh]; rfl : _ = (3 : Int)))
      clear hsh HE
      go_wp2_with fail
      go_ret
      exact ⟨ret_i64' HE2.out, HB2.out⟩
    | false =>
      have HE2 := hide (HE.out.trans (by rw [hsh]; rfl : _ = (0 : Int)))
      clear hsh HE
      go_wp2_with fail
      go_ret
      exact ⟨ret_i64' HE2.out, HB2.out⟩
set_option maxRecDepth 100000 in
set_option maxHeartbeats 4000000 in
/-- No terms: no error. -/
theorem ref_terms_nil (w : World) : Calls Tryz.prog 66 #[.slice none 0 0] w (Ret1 w (.int .i64 0)) := by
  go_enter Tryz.func66, Tryz.ntmps66
  go_wp2_with fail
  go_loop [3] (fun iv => iv = .int .i64 0) (fun _ => 0)
  case atStart => rfl
  case round =>
    subst hrel
    go_wp2_with fail
    go_ret
    exact ⟨rfl, rfl⟩
set_option maxRecDepth 100000 in
set_option maxHeartbeats 4000000 in
theorem ref_line_num (s : ByteArray) (w : World) (hs : s.size ≤ 1073741824) :
    Calls Tryz.prog 47 #[.agg #[.slice none 0 0, .string s]] w (RetB w (.int .i64 (numErr (bts s)))) := by
  have HB := hide (ext_alloc w (.cells #[.slice none 0 0, .string s] 81))
  have HS := hide hs
  clear hs
  go_enter Tryz.func47, Tryz.ntmps47
  go_wp2_with fail
  refine (ref_terms_nil _).mono ?_
  rintro e w1 ⟨rfl, rfl⟩
  go_wp2_with fail
  refine (ref_entered s _ HS.out).mono ?_
  rintro e w2 ⟨rfl, hb2⟩
  have HB2 := hide (ext HB.out hb2)
  clear hb2
  go_wp2_with fail
  go_ret
  exact ⟨rfl, HB2.out⟩
theorem ref_numbererr (s : ByteArray) (w : World) (hs : s.size ≤ 1073741824) :
    Calls Tryz.prog 31 #[.string s] w (RetB w (.int .i64 (numErr (bts s)))) := by
  have HS := hide hs
  clear hs
  go_enter Tryz.func31, Tryz.ntmps31
  go_wp2_with fail
  refine (ref_line_num s _ HS.out).mono ?_
  rintro e w2 ⟨rfl, hb2⟩
  have HB2 := hide hb2
  clear hb2
  go_wp2_with fail
  go_ret
  exact ⟨rfl, HB2.out⟩
end Go.Proofs.YtmeagiodcnfmgaaGreat
namespace Go.Proofs.YtmeagiodcnfmgaaGreat
open Go.RowKit Go.Deep
attribute [local go_sem ↓] Go.wp_at_zero Go.wp_at_succ
set_option maxRecDepth 100000 in
set_option maxHeartbeats 4000000 in
theorem ref_must (s : ByteArray) (q : Rat) (w : World) (hs : s.size ≤ 1073741824) (hq : readFrac (bts s) = some q) :
    Calls Tryz.prog 33 #[.string s] w (NewRef w q) := by
  have hWR := ext_alloc w (.cells #[.bool false, .slice none 0 0, .slice none 0 0] 42)
  have kR := Blk.new w 42 #[.bool false, .slice none 0 0, .slice none 0 0]
  have HWR := hide hWR
  have HKR := hide kR
  have HQ := hide hq
  have hnum := fun w => ref_number s w hs
  clear hq hWR kR hs
  go_enter Tryz.func33, Tryz.ntmps33
  go_wp2_with fail
  refine (hnum _).mono ?_
  rintro e w1 ⟨v, b, rfl, ⟨ng, A, n, c, B, m, d, rfl⟩, hb, hq, hb1⟩
  have hx := ext_alloc w1 (.cells #[.bool ng, .slice A n c, .slice B m d] 42)
  have hr := RefIs.below (hq q HQ.out) hx
  have hxx := ext hb1 hx
  have HK := hide (HKR.out.below hxx HKR.out.lt)
  have HW := hide (ext HWR.out hxx)
  obtain ⟨ng', A', n', c', B', m', d', e, h0, h1, h2⟩ := hr
  injection e with e
  have e0 := congrArg (fun a => a.toList) e
  simp at e0
  obtain ⟨rfl, ⟨rfl, rfl, rfl⟩, rfl, rfl, rfl⟩ := e0
  have H0 := hide h0
  have H1 := hide h1
  have H2 := hide h2
  have r0 := HK.out.cell 0
  have r1 := HK.out.cell 1
  have r2 := HK.out.cell 2
  have f0 := HK.out.frozen 0
  have f1 := HK.out.frozen 1
  have f2 := HK.out.frozen 2
  have lR := HK.out.lt
  simp at r0 r1 r2
  clear hb1 hnum hq hx hxx h0 h1 h2 e hb
  go_wp2_with fail
  have kR2 := ref_blk (ng := ng) (A := A) (n := n) (c := c) (B := B) (m := m) (d := d) HK.out
  have e0 := kR2.cell 0
  have e1 := kR2.cell 1
  have e2 := kR2.cell 2
  simp only [World.ref] at e0 e1 e2
  simp at e0 e1 e2
  refine bodyPost_ret (v := .agg #[.bool ng, .slice A n c, .slice B m d]) (by simp [results, Tryz.results33, go_sem, e0, e1, e2]) rfl ?_
  exact ⟨_, rfl, ⟨_, _, _, _, _, _, _, rfl, H0.out, ref_stored H1.out HK.out, ref_stored H2.out HK.out⟩, ref_below (w := w) (g := w.heap.size) HW.out (Nat.le_refl _)⟩
theorem empty_of_size {s : ByteArray} (h : s.size = 0) : s.toList = [] := by
  have he : bts s = [] := List.eq_nil_of_length_eq_zero (by rw [bts_length]; exact h)
  rw [Lib.toList_data]; exact he
theorem nonempty_of_size {s : ByteArray} (h0 : 0 < s.size) : s.toList.isEmpty = false := by
  rw [Bool.eq_false_iff]
  intro e
  have e := List.isEmpty_iff.1 e
  have := congrArg List.length e
  rw [Lib.toList_data] at this
  simp at this
  rw [this] at h0
  exact absurd h0 (by decide)
theorem isLow_iff {c : UInt8} : isLow c = true ↔ 97 ≤ c.toNat ∧ c.toNat ≤ 122 := by
  unfold isLow; simp
theorem isSign_cases {c : UInt8} (h : isNameSign c = true) : (97 ≤ c.toNat ∧ c.toNat ≤ 122) ∨ (48 ≤ c.toNat ∧ c.toNat ≤ 57 ∧ c.toNat < 97) ∨ (c.toNat = 45) := by
  unfold isNameSign at h
  simp only [Bool.or_eq_true] at h
  rcases h with (h | h) | h
  · exact .inl (isLow_iff.1 h)
  · obtain ⟨h1, h2⟩ := isDig_bounds h
    exact .inr (.inl ⟨h1, h2, by omega⟩)
  · refine .inr (.inr ?_)
    rw [beq_iff_eq] at h
    rw [h]; rfl
theorem noSign_cases {c : UInt8} (h : isNameSign c = false) : (c.toNat < 48 ∧ c.toNat ≠ 45) ∨ (57 < c.toNat ∧ c.toNat < 97) ∨ (122 < c.toNat) := by
  have h1 : ¬ (97 ≤ c.toNat ∧ c.toNat ≤ 122) := by
    intro h2
    have := isLow_iff.2 h2
    unfold isNameSign at h; rw [this] at h; simp at h
  have h2 : ¬ (48 ≤ c.toNat ∧ c.toNat ≤ 57) := by
    intro h2
    have : isDig c = true := by unfold isDig; simp [h2]
    unfold isNameSign at h; rw [this] at h; simp at h
  have h3 : c.toNat ≠ 45 := by
    intro h3
    have : c = 45 := UInt8.toNat_inj.1 h3
    unfold isNameSign at h; rw [this] at h; simp at h
  omega
theorem name_head {s : ByteArray} (h : 0 < s.size) : (bts s).headD 0 = s[0] := by
  have h1 := bts_get s 0 h
  rw [List.headD_eq_head?_getD, List.head?_eq_getElem?, List.getElem?_eq_getElem (by rw [bts_length]; exact h), h1]; rfl
theorem name_no1 {s : ByteArray} (h : 0 < s.size) (h1 : isLow s[0] = false) : isName (bts s) = false := by
  unfold isName; rw [name_head h, h1]; simp
theorem name_no2 {s : ByteArray} {k : Nat} (h : k < s.size) (h1 : isNameSign s[k] = false) : isName (bts s) = false := by
  have : (bts s).all isNameSign = false := by
    rw [Bool.eq_false_iff]
    intro h2
    have h3 := List.all_eq_true.1 h2 ((bts s)[k]'(by rw [bts_length]; exact h)) (List.getElem_mem _)
    rw [bts_get s k h, h1] at h3; cases h3
  unfold isName; rw [this]; simp
theorem name_yes {s : ByteArray} (h : 0 < s.size) (h16 : s.size ≤ 16) (h1 : isLow s[0] = true) (h2 : ∀ j (hj : j < s.size), isNameSign s[j] = true) : isName (bts s) = true := by
  have : (bts s).all isNameSign = true := by
    rw [List.all_eq_true]
    intro c hc
    obtain ⟨j, hj, rfl⟩ := List.mem_iff_getElem.1 hc
    rw [bts_length] at hj
    rw [bts_get s j hj]
    exact h2 j hj
  unfold isName; rw [this, name_head h, h1, bts_length, decide_eq_true (show 1 ≤ s.size from h), decide_eq_true h16]; rfl
set_option maxRecDepth 100000 in
set_option maxHeartbeats 4000000 in
theorem ref_name (s : ByteArray) (w : World) (hs : s.size ≤ 1073741824) :
    Calls Tryz.prog 12 #[.string s] w (Ret1 w (.bool (isName (bts s)))) := by
  by_cases h0 : s.size = 0
  · have he := empty_of_size h0
    have HN := hide (show isName (bts s) = false by unfold isName; rw [bts_length, h0]; rfl)
    clear h0
    go_enter Tryz.func12, Tryz.ntmps12
    go_wp2_with fail
    go_ret
    exact ⟨ret_bool HN.out, rfl⟩
  · have hp : 0 < s.size := by omega
    have hne := nonempty_of_size hp
    clear h0
    by_cases h16 : 16 < s.size
    · have HN := hide (show isName (bts s) = false by unfold isName; rw [bts_length, decide_eq_false (show ¬ s.size ≤ 16 by omega)]; simp)
      go_enter Tryz.func12, Tryz.ntmps12
      go_wp2_with fail
      go_ret
      exact ⟨ret_bool HN.out, rfl⟩
    · cases hl : isLow s[0] with
      | false =>
        have HN := hide (name_no1 hp hl)
        have hc : s[0].toNat < 97 ∨ 122 < s[0].toNat := by
          have : ¬ (97 ≤ s[0].toNat ∧ s[0].toNat ≤ 122) := by intro h; rw [isLow_iff.2 h] at hl; cases hl
          omega
        rcases hc with hc | hc
        · clear hl
          go_enter Tryz.func12, Tryz.ntmps12
          go_wp2_with fail
          go_ret
          exact ⟨ret_bool HN.out, rfl⟩
        · have hc2 : ¬ s[0].toNat < 97 := by omega
          clear hl
          go_enter Tryz.func12, Tryz.ntmps12
          go_wp2_with fail
          go_ret
          exact ⟨ret_bool HN.out, rfl⟩
      | true =>
        obtain ⟨hc1, hc2⟩ := isLow_iff.1 hl
        have hd1 : ¬ s[0].toNat < 97 := by omega
        have hd2 : ¬ 122 < s[0].toNat := by omega
        have HL := hide hl
        have H16 := hide (show s.size ≤ 16 by omega)
        clear hl hc1 hc2
        go_enter Tryz.func12, Tryz.ntmps12
        go_wp2_with fail
        go_loop [3] (fun iv => ∃ k : Nat, k ≤ s.size ∧ iv = .int .i64 k ∧ Hid (∀ j (h : j < s.size), j < k → isNameSign s[j] = true)) (fun iv => s.size - (intOf iv).toNat)
        case atStart => exact ⟨0, Nat.zero_le _, rfl, fun j _ h => by omega⟩
        case round =>
          obtain ⟨k, hk, rfl, HD⟩ := hrel
          clear hd1 hd2
          by_cases hlt : k < s.size
          · cases hd : isNameSign s[k] with
            | true =>
              have HD1 := hide hd
              have hnext : ∀ j (h : j < s.size), j < k + 1 → isNameSign s[j] = true := by
                intro j hj hlt2
                rcases Nat.lt_or_ge j k with h3 | h3
                · exact HD.out j hj h3
                · obtain rfl : j = k := by omega
                  exact HD1.out
              have HNX := hide hnext
              clear hnext
              rcases isSign_cases hd with ⟨h1, h2⟩ | ⟨h1, h2, h3⟩ | h1
              · clear hd
                go_wp2_with fail
                go_round
                case rel => exact ⟨k + 1, by omega, by go_num, HNX.out⟩
                case measure => simp [intOf]; omega
              · have h4 : ¬ 97 ≤ s[k].toNat := by omega
                clear hd h3
                go_wp2_with fail
                go_round
                case rel => exact ⟨k + 1, by omega, by go_num, HNX.out⟩
                case measure => simp [intOf]; omega
              · have h4 : ¬ 97 ≤ s[k].toNat := by omega
                have h5 : ¬ 48 ≤ s[k].toNat := by omega
                have h6 : ((s[k].toNat : Int) != 45) = false := by rw [h1]; rfl
                clear hd
                clear h1
                go_wp2_with fail
                go_round
                case rel => exact ⟨k + 1, by omega, by go_num, HNX.out⟩
                case measure => simp [intOf]; omega
            | false =>
              have HN := hide (name_no2 hlt hd)
              have h6 : ((s[k].toNat : Int) != 45) = true := by
                rw [bne_iff_ne]
                have := noSign_cases hd
                omega
              rcases noSign_cases hd with ⟨h1, _⟩ | ⟨h1, h2⟩ | h1
              · have h4 : ¬ 97 ≤ s[k].toNat := by omega
                have h5 : ¬ 48 ≤ s[k].toNat := by omega
                clear hd
                go_wp2_with fail
                go_ret
                exact ⟨ret_bool HN.out, rfl⟩
              · have h4 : ¬ 97 ≤ s[k].toNat := by omega
                have h5 : 48 ≤ s[k].toNat := by omega
                have h7 : decide ((s[k].toNat : Int) ≤ 57) = false := by rw [decide_eq_false_iff_not]; omega
                clear hd
                go_wp2_with fail
                go_ret
                exact ⟨ret_bool HN.out, rfl⟩
              · have h4 : 97 ≤ s[k].toNat := by omega
                have h5 : 48 ≤ s[k].toNat := by omega
                have h7 : decide ((s[k].toNat : Int) ≤ 57) = false := by rw [decide_eq_false_iff_not]; omega
                have h8 : decide ((s[k].toNat : Int) ≤ 122) = false := by rw [decide_eq_false_iff_not]; omega
                clear hd
                go_wp2_with fail
                go_ret
                exact ⟨ret_bool HN.out, rfl⟩
          · obtain rfl : k = s.size := by omega
            have HN := hide (name_yes hp H16.out HL.out (fun j hj => HD.out j hj hj))
            go_wp2_with fail
            go_ret
            exact ⟨ret_bool HN.out, rfl⟩
end Go.Proofs.YtmeagiodcnfmgaaGreat
namespace Go.Proofs.YtmeagiodcnfmgaaGreat
open Go.RowKit Go.Deep
attribute [local go_sem ↓] Go.wp_at_zero Go.wp_at_succ
theorem ref_sized_zero (w : World) : Calls Tryz.prog 51 #[.int .u64 0] w (Ret1 w (.slice none 0 0)) := by
  go_enter Tryz.func51, Tryz.ntmps51
  go_wp2_with fail
  go_loop [0, 3] (fun uv ov => uv = .int .u64 0 ∧ ov = .slice none 0 0) (fun _ _ => 0)
  case atStart => exact ⟨rfl, rfl⟩
  case round =>
    obtain ⟨rfl, rfl⟩ := hrel
    go_wp2_with fail
    go_ret
    exact ⟨rfl, rfl⟩
set_option maxRecDepth 100000 in
set_option maxHeartbeats 4000000 in
theorem ref_of_zero (w : World) : Calls Tryz.prog 35 #[.int .i64 0] w (NewRef w 0) := by
  go_enter Tryz.func35, Tryz.ntmps35
  go_wp2_with fail
  refine (ref_sized_zero _).mono ?_
  rintro e w1 ⟨rfl, rfl⟩
  go_wp2_with fail
  refine bodyPost_ret (v := .agg #[.bool false, .slice none 0 0, .slice (some ⟨w.heap.size + 1, 0, none⟩) 1 1]) (by simp [results, Tryz.results35, go_sem]) rfl ?_
  have h1 := siz_one (w.alloc (.cells #[.bool false, .slice none 0 0, .slice (some ⟨w.heap.size + 1, 0, none⟩) 1 1] 42)) (d := 1) (by omega) (by omega)
  simp only [World.size_alloc] at h1
  exact ⟨_, rfl, ⟨false, none, 0, 0, _, 1, 1, rfl, rfl, siz_nil _, h1⟩, ext (ext_alloc _ _) (ext_alloc _ _)⟩
end Go.Proofs.YtmeagiodcnfmgaaGreat
