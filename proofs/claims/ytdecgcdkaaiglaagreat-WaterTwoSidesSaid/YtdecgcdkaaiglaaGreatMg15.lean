/- The walks of the reference's texts (1): digits, cut, size. · The walks of the reference's texts (3): a number as text. -/
import Derived.Below
import Derived.BigQuiet
import Derived.BigRegion
import Derived.Deep.AppendLies
import Derived.Deep.CutBlock
import Derived.Deep.DeepCutAuto
import Derived.Deep.DeepMust
import Derived.Deep.Draws
import Derived.Deep.OwnRows
import Derived.Deep.QuietTactic
import Derived.Deep.RegionHeld3
import Derived.Deep.RegionLawGrows
import Derived.Deep.RegionWith
import Derived.IntWalk
import Derived.Laws.BitsAllLaws
import Derived.Laws.MathBits
import Derived.Laws.OwnMore
import Derived.Laws.Rows
import Derived.Lib.BitFns
import Derived.Lib.Bytealg
import Derived.Lib.Index
import Derived.Lib.Slices
import Derived.Lib.Small
import Derived.Lib.Strings
import Derived.Lib.Walk
import Derived.LoopN
import Derived.Maps.AppendAt
import Derived.OwnWalk
import Derived.RegionTactic
import Derived.StillTailTactics
import Derived.WalkKit
import Derived.WalkLawsBesides
import Derived.WalkSpells
import Init.Data.List.Lemmas
import Derived.Test.YtdecgcdkaaiglaaGreatMg13
import Derived.Test.YtdecgcdkaaiglaaGreatMg14
import Derived.Test.YtdecgcdkaaiglaaGreatMg01
set_option linter.unusedVariables false
set_option linter.unusedSimpArgs false
namespace Go.Proofs.YtdecgcdkaaiglaaGreat
open Go.RowKit Go.Deep
/-- What is left of a text, and the digits of what is gone. -/
def SizR (L : List UInt8) (w : World) (sv ov : Value) (wr : World) : Prop :=
  ∃ (t : ByteArray) (O : List Nat), sv = .string t ∧ t.size + O.length ≤ L.length ∧ Hid ((bts t).all isDig = true) ∧ Small 1000000000 O ∧ Hid (decVal L = decVal (bts t) * 1000000000 ^ O.length + val 1000000000 O) ∧
    wr.ownsRow w.heap.size 3 1 ov O.length (i64s O) ∧ Below w.heap.size w wr
theorem dec_part_lt {l : List UInt8} (h : l.all isDig = true) (f i : Nat) (hi : i - f ≤ 9) : decVal ((l.drop f).take (i - f)) < 1000000000 := by
  have h1 := decVal_lt (all_take (all_drop h f) (i - f))
  have h2 := pow_ten_le hi
  have h3 : 10 ^ ((l.drop f).take (i - f)).length ≤ 10 ^ (i - f) := Nat.pow_le_pow_right (by omega) (by rw [List.length_take]; omega)
  omega
theorem SizR.step {L : List UInt8} {w wr w2 : World} {t : ByteArray} {O : List Nat} {ov ov2 : Value} {o : Obj} {f n : Nat} (ht : t.size + O.length ≤ L.length) (h0 : 0 < t.size) (hf : f = t.size - 9) (HD : Hid ((bts t).all isDig = true)) (hsO : Small 1000000000 O)
    (HV : Hid (decVal L = decVal (bts t) * 1000000000 ^ O.length + val 1000000000 O)) (hown : wr.ownsRow w.heap.size 3 1 ov O.length (i64s O)) (hbl : Below w.heap.size w wr)
    (hn : n = decVal (((bts t).drop f).take (t.size - f))) (hown2 : w2.ownsRow w.heap.size 3 1 ov2 (O.length + 1) (i64s O ++ [.int .i64 (n : Int)])) (hg : (wr.alloc o).grownBy w2 ov.ownBlock) :
    SizR L w (.string (t.extract 0 f)) ov2 w2 := by
  have hlt : n < 1000000000 := by rw [hn]; exact dec_part_lt HD.out f t.size (by omega)
  have hft : f ≤ t.size := by omega
  have hbe : bts (t.extract 0 f) = (bts t).take f := by have := bts_extract t 0 f; rw [List.drop_zero] at this; exact this
  have hsz : (t.extract 0 f).size = f := by rw [← bts_length, hbe, List.length_take, bts_length]; omega
  refine ⟨_, O ++ [n], rfl, by rw [hsz, List.length_append]; simp; omega, ?_, hsO.append (Small.cons hlt (Small.nil _)), ?_, ?_, ?_⟩
  · rw [hbe]; exact all_take HD.out f
  · show _ = _
    have hdr : ((bts t).drop f).take (t.size - f) = (bts t).drop f := List.take_of_length_le (by rw [List.length_drop, bts_length]; exact Nat.le_refl _)
    have e1 : decVal (bts t) = decVal ((bts t).take f) * 10 ^ (t.size - f) + n := by
      conv => lhs; rw [← List.take_append_drop f (bts t)]
      rw [decVal_append, List.length_drop, bts_length, hn, hdr]
    rw [HV.out, e1, hbe, val_snoc, List.length_append, List.length_singleton, Nat.pow_succ]
    by_cases h9 : 9 ≤ t.size
    · have : t.size - f = 9 := by omega
      rw [this, show (10 : Nat) ^ 9 = 1000000000 by decide, Nat.add_mul, Nat.mul_assoc, Nat.mul_comm 1000000000 (1000000000 ^ O.length), Nat.mul_comm n]
      omega
    · have : f = 0 := by omega
      subst this
      rw [List.take_zero, decVal_nil, Nat.zero_mul, Nat.zero_mul, Nat.zero_add, Nat.zero_add, Nat.mul_comm n]
      omega
  · rw [List.length_append, i64s_append]
    exact hown2
  · exact (hbl.alloc hbl.size o).grown hg (by have := hbl.size; simp; omega) (fun k hk => (hown.lt k hk).1)
end Go.Proofs.YtdecgcdkaaiglaaGreat
namespace Go.Proofs.YtdecgcdkaaiglaaGreat
open Go.RowKit Go.Deep
/-- The sizes of a number of the reference are at most M long. -/
def NLen (M : Nat) (q : Rat) : Prop := len 1000000000 q.num.natAbs ≤ M ∧ len 1000000000 q.den ≤ M
theorem RefIs.form {w : World} {v : Value} {q : Rat} (h : RefIs w v q) : ∃ ng A c B d, v = .agg #[.bool ng, .slice A (len 1000000000 q.num.natAbs) c, .slice B (len 1000000000 q.den) d] ∧ ng = decide (q.num < 0) ∧
    SizIs w (.slice A (len 1000000000 q.num.natAbs) c) q.num.natAbs ∧ SizIs w (.slice B (len 1000000000 q.den) d) q.den := by
  obtain ⟨ng, A, n, c, B, m, d, rfl, hng, ha1, ha2⟩ := h
  obtain ⟨A', c', e1⟩ := ha1.form
  obtain ⟨B', d', e2⟩ := ha2.form
  injection e1 with e1 e2' e3
  injection e2 with f1 f2 f3
  subst e1 e2' e3 f1 f2 f3
  exact ⟨_, _, _, _, _, rfl, hng, ha1, ha2⟩
end Go.Proofs.YtdecgcdkaaiglaaGreat
