/- The walks of package strings at a separator of one byte: Cut, CutPrefix, TrimPrefix. · The walks of the texts of numbers (1): digits, plain ones. -/
import Derived.Below
import Derived.BigQuiet
import Derived.BigRegion
import Derived.Deep.AppendLies
import Derived.Deep.CutBlock
import Derived.Deep.DeepCutAuto
import Derived.Deep.DeepMust
import Derived.Deep.Draws
import Derived.Deep.OwnRows
import Derived.Deep.QuietTactic
import Derived.Deep.RegionHeld3
import Derived.Deep.RegionLawGrows
import Derived.Deep.RegionWith
import Derived.Laws.BitsAllLaws
import Derived.Laws.MathBits
import Derived.Laws.OwnMore
import Derived.Laws.Rows
import Derived.Lib.BitFns
import Derived.Lib.Bytealg
import Derived.Lib.Index
import Derived.Lib.Slices
import Derived.Lib.Small
import Derived.Lib.Strings
import Derived.Lib.Walk
import Derived.Maps.AppendAt
import Derived.OwnWalk
import Derived.RegionTactic
import Derived.StillTailTactics
import Derived.WalkKit
import Derived.WalkLawsBesides
import Derived.WalkSpells
import Init.Data.List.Lemmas
import Derived.Test.YtdecgcdkaaiglaaGreatMg11
import Derived.Test.YtdecgcdkaaiglaaGreatMg01
set_option linter.unusedVariables false
set_option linter.unusedSimpArgs false
namespace Go.Proofs.YtdecgcdkaaiglaaGreat
open Go.RowKit Go.Deep
/-- A text as a value. -/
abbrev str (l : List UInt8) : Value := .string ⟨l.toArray⟩
theorem bts_mk (l : List UInt8) : bts ⟨l.toArray⟩ = l := by unfold bts; simp
theorem indexByte_has {l : List UInt8} {c : UInt8} (h : has c l = true) : Lib.indexByte l c = ((ahead c l).length : Int) := by
  induction l with
  | nil => simp [has] at h
  | cons b l ih =>
    unfold Lib.indexByte ahead
    by_cases hb : b = c
    · subst hb; simp
    · have h' : has c l = true := by
        unfold has at h ⊢
        simp only [List.contains_cons, Bool.or_eq_true, beq_iff_eq] at h
        rcases h with h | h
        · exact absurd h.symm hb
        · exact h
      have := ih h'
      have e1 : (b == c) = false := by simpa using hb
      have e2 : (b != c) = true := by simpa using hb
      rw [e1, List.takeWhile_cons_of_pos (by simpa using hb), this]
      unfold ahead
      have e3 : (((List.takeWhile (fun x => x != c) l).length : Int) == -1) = false := by rw [beq_eq_false_iff_ne]; omega
      rw [e3]
      simp
theorem indexByte_no {l : List UInt8} {c : UInt8} (h : has c l = false) : Lib.indexByte l c = -1 := by
  induction l with
  | nil => rfl
  | cons b l ih =>
    unfold has at h
    simp only [List.contains_cons, Bool.or_eq_false_iff, beq_eq_false_iff_ne] at h
    unfold Lib.indexByte
    have e1 : (b == c) = false := by rw [beq_eq_false_iff_ne]; exact fun e => h.1 e.symm
    rw [e1, ih h.2]; rfl
set_option maxRecDepth 100000 in
theorem index_byte (s : ByteArray) (c : Int) (w : World) :
    Calls Tryz.prog 181 #[.string s, .int .u8 c] w (Ret1 w (.int .i64 (Lib.indexByte s.data.toList c.toNat.toUInt8))) := by
  go_enter Tryz.func181, Tryz.ntmps181
  go_wp2
  rw [run_callFunc_extern Tryz.func188 (by kernel_rfl) (by kernel_rfl) (by kernel_rfl) (e := Extern.BytealgIndexByte.indexByte) (by kernel_rfl), Lib.run_indexByteString]
  simp only [Result.andThen]
  rw [Oper.upon_value]
  go_wp2
  go_ret
  exact ⟨rfl, rfl⟩
set_option maxRecDepth 100000 in
theorem index_one (s : ByteArray) (c : UInt8) (w : World) :
    Calls Tryz.prog 163 #[.string s, .string ⟨#[c]⟩] w (Ret1 w (.int .i64 (Lib.indexByte s.data.toList c))) := by
  have h := fun w => index_byte s (c.toNat : Int) w
  have e : ((c.toNat : Int)).toNat.toUInt8 = c := by simp
  simp only [e] at h
  cases hb : ([c] == s.toList) with
  | true =>
    have e2 : s.data.toList = [c] := by
      have := beq_iff_eq.1 hb
      rw [← Lib.toList_data]
      exact this.symm
    have e3 : Lib.indexByte s.data.toList c = 0 := by rw [e2]; simp [Lib.indexByte]
    rw [e3]
    clear e2 e3 h
    go_enter Tryz.func163, Tryz.ntmps163
    go_wp2
    go_ret
    exact ⟨rfl, rfl⟩
  | false =>
    go_enter Tryz.func163, Tryz.ntmps163
    go_wp2_with fail
    refine (h _).mono ?_
    rintro e w' ⟨rfl, rfl⟩
    go_wp2
    go_ret
    exact ⟨rfl, rfl⟩
/-- A call cuts a text at a sign. -/
def RetCut (w : World) (s : ByteArray) (c : UInt8) (e : Ending) (w' : World) : Prop :=
  ∃ a b, e = .returned (.tuple #[.string a, .string b, .bool (has c (bts s))]) ∧ bts a = ahead c (bts s) ∧ bts b = (if has c (bts s) = true then behind c (bts s) else []) ∧ ∃ n, w' = w.drewN n
theorem cut_bytes {s : ByteArray} {c : UInt8} (h : has c (bts s) = true) : (ahead c (bts s)).length < s.size ∧ bts (s.extract 0 (ahead c (bts s)).length) = ahead c (bts s) ∧ bts (s.extract ((ahead c (bts s)).length + 1) s.size) = behind c (bts s) := by
  have e := cut_eq h
  have hl : (bts s).length = (ahead c (bts s)).length + 1 + (behind c (bts s)).length := by
    conv => lhs; rw [e]
    rw [List.length_append, List.length_cons]; omega
  rw [bts_length] at hl
  refine ⟨by omega, ?_, ?_⟩
  · rw [bts_extract, List.drop_zero]
    generalize ahead c (bts s) = A at e
    rw [e, List.take_append_of_le_length (Nat.le_refl _), List.take_length]
  · rw [bts_extract, List.take_of_length_le (by rw [bts_length]; exact Nat.le_refl _)]
    generalize ahead c (bts s) = A at e
    generalize behind c (bts s) = B at e
    rw [e, List.drop_append]
    simp
set_option maxRecDepth 100000 in
theorem slite_cut (s : ByteArray) (c : UInt8) (w : World) (hs : s.size ≤ 1073741824) :
    Calls Tryz.prog 140 #[.string s, .string ⟨#[c]⟩] w (RetCut w s c) := by
  have hx := fun w => index_one s c w
  by_cases hh : has c (bts s) = true
  · obtain ⟨h1, h2, h3⟩ := cut_bytes hh
    have hi : Lib.indexByte s.data.toList c = ((ahead c (bts s)).length : Int) := indexByte_has hh
    rw [hi] at hx
    have HP : Hid (∀ n : Nat, RetCut w s c (.returned (.tuple #[.string (s.extract 0 (ahead c (bts s)).length), .string (s.extract ((ahead c (bts s)).length + 1) s.size), .bool true])) (w.drewN n)) := by
      intro n
      exact ⟨_, _, by rw [hh], h2, by rw [if_pos hh]; exact h3, n, rfl⟩
    clear hi h2 h3 hh
    generalize (ahead c (bts s)).length = k at h1 hx HP
    go_enter Tryz.func140, Tryz.ntmps140
    go_wp2_with fail
    refine (hx _).mono ?_
    rintro e w' ⟨rfl, rfl⟩
    go_wp2_with fail
    go_quiet (fail)
    go_wp2
    go_ret3
    exact HP.out _
  · have hh' : has c (bts s) = false := by simpa using hh
    have hi : Lib.indexByte s.data.toList c = -1 := indexByte_no hh'
    rw [hi] at hx
    have HP : Hid (RetCut w s c (.returned (.tuple #[.string s, .string ⟨#[]⟩, .bool false])) w) := 
      ⟨_, _, by rw [hh'], (ahead_none hh').symm, by rw [if_neg hh]; rfl, 0, rfl⟩
    clear hi hh hh'
    go_enter Tryz.func140, Tryz.ntmps140
    go_wp2_with fail
    refine (hx _).mono ?_
    rintro e w' ⟨rfl, rfl⟩
    go_wp2
    go_ret3
    exact HP.out
theorem str_cut (s : ByteArray) (c : UInt8) (w : World) (hs : s.size ≤ 1073741824) :
    Calls Tryz.prog 107 #[.string s, .string ⟨#[c]⟩] w (RetCut w s c) := by
  have h := fun w => slite_cut s c w hs
  go_enter Tryz.func107, Tryz.ntmps107
  go_wp2_with fail
  refine (h _).mono ?_
  rintro e w' ⟨a, b, rfl, ha, hb, n, rfl⟩
  have HA := hide ha
  have HB := hide hb
  clear ha hb
  go_wp2
  go_ret3
  exact ⟨a, b, rfl, HA.out, HB.out, n, rfl⟩
theorem has_prefix (s : ByteArray) (c : UInt8) (w : World) (hs : s.size ≤ 1073741824) :
    Calls Tryz.prog 162 #[.string s, .string ⟨#[c]⟩] w (Ret1 w (.bool ((bts s).head? == some c))) := by
  by_cases h0 : 1 ≤ s.size
  · have hI : decide (1 ≤ (s.size : Int)) = true := decide_eq_true (by omega)
    have e : ((s.extract 0 1).toList == [c]) = ((bts s).head? == some c) := by
      rw [Lib.toList_data]
      have e1 : (s.extract 0 1).data.toList = (bts s).take 1 := by
        have := bts_extract s 0 1
        rw [List.drop_zero] at this
        exact this
      rw [e1]
      cases hl : bts s with
      | nil => have := bts_length s; rw [hl] at this; simp at this; omega
      | cons b l => simp
    have HE := hide e
    clear e
    generalize hb : ((bts s).head? == some c) = b at HE
    clear hb
    cases hx : ((s.extract 0 1).toList == [c]) with
    | true =>
      have hb : b = true := by rw [← hx]; exact HE.out.symm
      subst hb
      clear HE
      go_enter Tryz.func162, Tryz.ntmps162
      go_wp2
      go_ret
      exact ⟨rfl, rfl⟩
    | false =>
      have hb : b = false := by rw [← hx]; exact HE.out.symm
      subst hb
      clear HE
      go_enter Tryz.func162, Tryz.ntmps162
      go_wp2
      go_ret
      exact ⟨rfl, rfl⟩
  · have e : ((bts s).head? == some c) = false := by
      have : bts s = [] := List.eq_nil_of_length_eq_zero (by rw [bts_length]; omega)
      rw [this]; rfl
    rw [e]
    have hI : decide (1 ≤ (s.size : Int)) = false := decide_eq_false (by omega)
    clear e
    go_enter Tryz.func162, Tryz.ntmps162
    go_wp2
    go_ret
    exact ⟨rfl, rfl⟩
/-- what a text is without a sign ahead -/
def RetPre (w : World) (s : ByteArray) (e : Ending) (w' : World) : Prop := ∃ u, e = .returned (.tuple #[.string u, .bool (signOf (bts s))]) ∧ bts u = unsigned (bts s) ∧ w = w'
def RetTrimP (w : World) (s : ByteArray) (e : Ending) (w' : World) : Prop := ∃ u, e = .returned (.string u) ∧ bts u = unsigned (bts s) ∧ w = w'
theorem bts_tail (s : ByteArray) (h : signOf (bts s) = true) : bts (s.extract 1 s.size) = unsigned (bts s) := by
  unfold unsigned
  rw [if_pos h, bts_extract, List.take_of_length_le (by rw [bts_length]; exact Nat.le_refl _)]
  simp
theorem slite_cutprefix (s : ByteArray) (w : World) (hs : s.size ≤ 1073741824) :
    Calls Tryz.prog 139 #[.string s, .string ⟨#[45]⟩] w (RetPre w s) := by
  have h := fun w => has_prefix s 45 w hs
  have e : ((bts s).head? == some 45) = signOf (bts s) := rfl
  rw [e] at h
  clear e
  cases hb : signOf (bts s) with
  | true =>
    rw [hb] at h
    have h0 : 1 ≤ s.size := by
      rcases Nat.eq_zero_or_pos s.size with h1 | h1
      · have : bts s = [] := List.eq_nil_of_length_eq_zero (by rw [bts_length]; exact h1)
        rw [this] at hb; cases hb
      · exact h1
    have HP := hide (show RetPre w s (.returned (.tuple #[.string (s.extract 1 s.size), .bool true])) w from ⟨_, by rw [hb], bts_tail s hb, rfl⟩)
    clear hb
    go_enter Tryz.func139, Tryz.ntmps139
    go_wp2_with fail
    refine (h _).mono ?_
    rintro e w' ⟨rfl, rfl⟩
    go_wp2
    go_ret2
    exact HP.out
  | false =>
    rw [hb] at h
    have HP := hide (show RetPre w s (.returned (.tuple #[.string s, .bool false])) w from ⟨_, by rw [hb], (unsigned_pos hb).symm, rfl⟩)
    clear hb
    go_enter Tryz.func139, Tryz.ntmps139
    go_wp2_with fail
    refine (h _).mono ?_
    rintro e w' ⟨rfl, rfl⟩
    go_wp2
    go_ret2
    exact HP.out
theorem str_cutprefix (s : ByteArray) (w : World) (hs : s.size ≤ 1073741824) :
    Calls Tryz.prog 106 #[.string s, .string ⟨#[45]⟩] w (RetPre w s) := by
  have h := fun w => slite_cutprefix s w hs
  go_enter Tryz.func106, Tryz.ntmps106
  go_wp2_with fail
  refine (h _).mono ?_
  rintro e w' ⟨u, rfl, hu, rfl⟩
  have HU := hide hu
  clear hu
  go_wp2
  go_ret2
  exact ⟨u, rfl, HU.out, rfl⟩
theorem slite_trimprefix (s : ByteArray) (w : World) (hs : s.size ≤ 1073741824) :
    Calls Tryz.prog 191 #[.string s, .string ⟨#[45]⟩] w (RetTrimP w s) := by
  have h := fun w => has_prefix s 45 w hs
  have e : ((bts s).head? == some 45) = signOf (bts s) := rfl
  rw [e] at h
  clear e
  cases hb : signOf (bts s) with
  | true =>
    rw [hb] at h
    have h0 : 1 ≤ s.size := by
      rcases Nat.eq_zero_or_pos s.size with h1 | h1
      · have : bts s = [] := List.eq_nil_of_length_eq_zero (by rw [bts_length]; exact h1)
        rw [this] at hb; cases hb
      · exact h1
    have HB := hide hb
    clear hb
    go_enter Tryz.func191, Tryz.ntmps191
    go_wp2_with fail
    refine (h _).mono ?_
    rintro e w' ⟨rfl, rfl⟩
    go_wp2
    go_ret
    exact ⟨_, rfl, bts_tail s HB.out, rfl⟩
  | false =>
    rw [hb] at h
    have HB := hide hb
    clear hb
    go_enter Tryz.func191, Tryz.ntmps191
    go_wp2_with fail
    refine (h _).mono ?_
    rintro e w' ⟨rfl, rfl⟩
    go_wp2
    go_ret
    exact ⟨_, rfl, (unsigned_pos HB.out).symm, rfl⟩
theorem str_trimprefix (s : ByteArray) (w : World) (hs : s.size ≤ 1073741824) :
    Calls Tryz.prog 190 #[.string s, .string ⟨#[45]⟩] w (RetTrimP w s) := by
  have h := fun w => slite_trimprefix s w hs
  go_enter Tryz.func190, Tryz.ntmps190
  go_wp2_with fail
  refine (h _).mono ?_
  rintro e w' ⟨u, rfl, hu, rfl⟩
  have HU := hide hu
  clear hu
  go_wp2
  go_ret
  exact ⟨u, rfl, HU.out, rfl⟩
end Go.Proofs.YtdecgcdkaaiglaaGreat
namespace Go.Proofs.YtdecgcdkaaiglaaGreat
open Go.RowKit Go.Deep
theorem ret_bool {a b : Bool} (h : a = b) : Ending.returned (.bool b) = .returned (.bool a) := by rw [h]
theorem not_dig {c : UInt8} (h : isDig c = false) : c.toNat < 48 ∨ 57 < c.toNat := by
  unfold isDig at h
  simp at h
  omega
theorem isDigs_false {s : ByteArray} {k : Nat} (hk : k < s.size) (h : isDig s[k] = false) : isDigs (bts s) = false := by
  unfold isDigs
  have : (bts s).all isDig = false := by
    rw [List.all_eq_false]
    exact ⟨s[k], by rw [← bts_get s k hk]; exact List.getElem_mem _, by rw [h]; simp⟩
  rw [this]; rfl
theorem digits_any (s : ByteArray) (w : World) (hs : s.size ≤ 1073741824) :
    Calls Tryz.prog 141 #[.string s] w (Ret1 w (.bool (isDigs (bts s)))) := by
  go_enter Tryz.func141, Tryz.ntmps141
  go_wp2
  go_loop [6] (fun iv => ∃ k : Nat, k ≤ s.size ∧ iv = .int .i64 k ∧ Hid (∀ j (h : j < s.size), j < k → isDig s[j] = true)) (fun iv => s.size - (intOf iv).toNat)
  case atStart => exact ⟨0, Nat.zero_le _, rfl, fun j _ h => by omega⟩
  case round =>
    obtain ⟨k, hk, rfl, HD⟩ := hrel
    by_cases hlt : k < s.size
    · cases hd : isDig s[k] with
      | true =>
        obtain ⟨h1, h2⟩ := isDig_bounds hd
        have HD1 := hide hd
        clear hd
        go_wp2
        go_round
        case rel =>
          refine ⟨k + 1, by omega, by go_num, ?_⟩
          intro j hj hlt2
          rcases Nat.lt_or_ge j k with h3 | h3
          · exact HD.out j hj h3
          · obtain rfl : j = k := by omega
            exact HD1.out
        case measure => simp [intOf]; omega
      | false =>
        have HF := hide (isDigs_false hlt hd)
        rcases not_dig hd with h1 | h1
        · clear hd
          go_wp2
          go_ret
          exact ⟨ret_bool HF.out, rfl⟩
        · have h2 : ¬ s[k].toNat < 48 := by omega
          clear hd
          go_wp2
          go_ret
          exact ⟨ret_bool HF.out, rfl⟩
    · obtain rfl : k = s.size := by omega
      have hall : (bts s).all isDig = true := by
        rw [List.all_eq_true]
        intro c hc
        obtain ⟨j, hj, rfl⟩ := List.mem_iff_getElem.1 hc
        rw [bts_length] at hj
        rw [bts_get s j hj]
        exact HD.out j hj hj
      have HI := hide (show isDigs (bts s) = !((s.toList).isEmpty) by unfold isDigs; rw [hall, Lib.toList_data]; rfl)
      clear hall
      cases hb : (s.toList).isEmpty with
      | true =>
        have HI2 := hide (HI.out.trans (by rw [hb]; rfl : _ = false))
        have hb2 : s.toList = [] := by simpa using hb
        clear HI
        go_wp2
        go_ret
        exact ⟨ret_bool HI2.out, rfl⟩
      | false =>
        have HI2 := hide (HI.out.trans (by rw [hb]; rfl : _ = true))
        clear HI
        go_wp2
        go_ret
        exact ⟨ret_bool HI2.out, rfl⟩
theorem bts_head (s : ByteArray) (h : 0 < s.size) : (bts s).head? = some s[0] := by
  rw [List.head?_eq_getElem?, List.getElem?_eq_getElem (by rw [bts_length]; exact h)]
  rfl
theorem plain_any (s : ByteArray) (w : World) (hs : s.size ≤ 1073741824) :
    Calls Tryz.prog 108 #[.string s] w (Ret1 w (.bool (plainDigs (bts s)))) := by
  have h := fun w => digits_any s w hs
  cases hd : isDigs (bts s) with
  | false =>
    rw [hd] at h
    have HP := hide (show plainDigs (bts s) = false by unfold plainDigs; rw [hd]; rfl)
    clear hd
    go_enter Tryz.func108, Tryz.ntmps108
    go_wp2_with fail
    refine (h _).mono ?_
    rintro e w' ⟨rfl, rfl⟩
    go_wp2
    go_ret
    exact ⟨ret_bool HP.out, rfl⟩
  | true =>
    rw [hd] at h
    have h0 : 0 < s.size := by
      unfold isDigs at hd
      rw [Bool.and_eq_true] at hd
      rcases Nat.eq_zero_or_pos s.size with h1 | h1
      · have : bts s = [] := List.eq_nil_of_length_eq_zero (by rw [bts_length]; exact h1)
        rw [this] at hd; simp at hd
      · exact h1
    have hp : plainDigs (bts s) = ((((s[0].toNat : Int) != 48) || ((s.size : Int) == 1)) && decide ((s.size : Int) ≤ 50000)) := by
      unfold plainDigs
      rw [hd, bts_head s h0, bts_length, Bool.true_and]
      congr 1
      · congr 1
        · rw [Bool.eq_iff_iff, bne_iff_ne, bne_iff_ne]
          constructor
          · intro h1 h2; apply h1; congr 1; apply UInt8.toNat_inj.1; have : (48 : UInt8).toNat = 48 := rfl; omega
          · intro h1 h2; apply h1; injection h2 with h2; rw [h2]; rfl
        · rw [Bool.eq_iff_iff, beq_iff_eq, beq_iff_eq]; omega
      · rw [Bool.eq_iff_iff, decide_eq_true_iff, decide_eq_true_iff]; omega
    have HP := hide hp
    clear hp hd
    cases b1 : ((s[0].toNat : Int) != 48) with
    | true =>
      cases b3 : decide ((s.size : Int) ≤ 50000) with
      | true =>
        have HP2 := hide (show plainDigs (bts s) = true by rw [HP.out, b1, b3]; rfl)
        clear HP
        go_enter Tryz.func108, Tryz.ntmps108
        go_wp2_with fail
        refine (h _).mono ?_
        rintro e w' ⟨rfl, rfl⟩
        go_wp2
        go_ret
        exact ⟨ret_bool HP2.out, rfl⟩
      | false =>
        have HP2 := hide (show plainDigs (bts s) = false by rw [HP.out, b1, b3]; rfl)
        clear HP
        go_enter Tryz.func108, Tryz.ntmps108
        go_wp2_with fail
        refine (h _).mono ?_
        rintro e w' ⟨rfl, rfl⟩
        go_wp2
        go_ret
        exact ⟨ret_bool HP2.out, rfl⟩
    | false =>
      cases b2 : ((s.size : Int) == 1) with
      | true =>
        have b3 : decide ((s.size : Int) ≤ 50000) = true := decide_eq_true (by have := beq_iff_eq.1 b2; omega)
        have HP2 := hide (show plainDigs (bts s) = true by rw [HP.out, b1, b2, b3]; rfl)
        clear HP
        go_enter Tryz.func108, Tryz.ntmps108
        go_wp2_with fail
        refine (h _).mono ?_
        rintro e w' ⟨rfl, rfl⟩
        go_wp2
        go_ret
        exact ⟨ret_bool HP2.out, rfl⟩
      | false =>
        have HP2 := hide (show plainDigs (bts s) = false by rw [HP.out, b1, b2]; rfl)
        clear HP
        go_enter Tryz.func108, Tryz.ntmps108
        go_wp2_with fail
        refine (h _).mono ?_
        rintro e w' ⟨rfl, rfl⟩
        go_wp2
        go_ret
        exact ⟨ret_bool HP2.out, rfl⟩
end Go.Proofs.YtdecgcdkaaiglaaGreat
