/- The walk of a pipe's part in two rows (the first literal of water.heads). · The walk of the program's elimination (water.solved). · Plain: the program's table of a net, in texts; what its numbers come to. · The walk of a net's heads (water.heads). · The walks of the program's net (7): conductances, asked, whole. · The walks of the program's net (8): Heads. · Plain law: the solution of rows of whole numbers has a common denominator that is not too great; so have the heads of a net. -/
import Derived.Below
import Derived.BigQuiet
import Derived.BigRegion
import Derived.Deep.AppendLies
import Derived.Deep.CutBlock
import Derived.Deep.DeepCutAuto
import Derived.Deep.DeepMust
import Derived.Deep.DrawnRows
import Derived.Deep.Draws
import Derived.Deep.LoopGhost
import Derived.Deep.MidRow
import Derived.Deep.OwnRows
import Derived.Deep.Quiet
import Derived.Deep.QuietTactic
import Derived.Deep.RegionHeld3
import Derived.Deep.RegionLawGrows
import Derived.Deep.RegionWith
import Derived.IntWalk
import Derived.Laws.BitsAllLaws
import Derived.Laws.MathBits
import Derived.Laws.OwnMore
import Derived.Laws.Rows
import Derived.Lib.BitFns
import Derived.Lib.Bytealg
import Derived.Lib.Index
import Derived.Lib.Slices
import Derived.Lib.Small
import Derived.Lib.Strings
import Derived.Lib.Walk
import Derived.LoopN
import Derived.Maps.AppendAt
import Derived.OwnWalk
import Derived.RegionTactic
import Derived.Scope
import Derived.StillTail
import Derived.StillTailTactics
import Derived.WalkKit
import Derived.WalkLawsBesides
import Derived.WalkMore
import Derived.WalkSpells
import Init.Data.List.Lemmas
import Derived.Test.YtdecgcdkaaiglaaGreatMg22
import Derived.Test.YtdecgcdkaaiglaaGreatMg23
import Derived.Test.YtdecgcdkaaiglaaGreatMg18
set_option linter.unusedVariables false
set_option linter.unusedSimpArgs false
namespace Go.Proofs.YtdecgcdkaaiglaaGreat
open Go.RowKit Go.Deep
attribute [local go_sem ↓] Go.wp_at_zero Go.wp_at_succ
def plusT (a b : List UInt8) : List UInt8 := (op2 (· + ·) a b).1
def minusT (a b : List UInt8) : List UInt8 := (op2 (· - ·) a b).1
def timesT (a b : List UInt8) : List UInt8 := (op2 (· * ·) a b).1
def overT (a b : List UInt8) : List UInt8 := (div2 a b).1
theorem toldOf_small (q : Rat) : SmallS (toldOf q).1 := by
  unfold toldOf SmallS
  split
  · next h => have := fracText_len h; simp only; omega
  · simp
theorem op2_small (f : Rat → Rat → Rat) (a b : List UInt8) : SmallS (op2 f a b).1 := by
  unfold op2
  split
  · exact toldOf_small _
  · unfold SmallS; simp
theorem smallS_size {l : List UInt8} (h : SmallS l) : (⟨l.toArray⟩ : ByteArray).size ≤ 1073741824 := by rw [← bts_length, bts_mk]; exact h
theorem plus_call (a b : List UInt8) (w : World) (ha : SmallS a) (hb : SmallS b) : Calls Tryz.prog 38 #[str a, str b] w (RetB w (str (plusT a b))) := by
  have h := water_plus ⟨a.toArray⟩ ⟨b.toArray⟩ w (smallS_size ha) (smallS_size hb)
  rw [bts_mk, bts_mk] at h
  exact h
theorem minus_call (a b : List UInt8) (w : World) (ha : SmallS a) (hb : SmallS b) : Calls Tryz.prog 40 #[str a, str b] w (RetB w (str (minusT a b))) := by
  have h := water_minus ⟨a.toArray⟩ ⟨b.toArray⟩ w (smallS_size ha) (smallS_size hb)
  rw [bts_mk, bts_mk] at h
  exact h
theorem times_call (a b : List UInt8) (w : World) (ha : SmallS a) (hb : SmallS b) : Calls Tryz.prog 39 #[str a, str b] w (RetB w (str (timesT a b))) := by
  have h := water_times ⟨a.toArray⟩ ⟨b.toArray⟩ w (smallS_size ha) (smallS_size hb)
  rw [bts_mk, bts_mk] at h
  exact h
theorem over_call (a b : List UInt8) (w : World) (ha : SmallS a) (hb : SmallS b) : Calls Tryz.prog 69 #[str a, str b] w (RetB w (str (overT a b))) := by
  have h := water_over ⟨a.toArray⟩ ⟨b.toArray⟩ w (smallS_size ha) (smallS_size hb)
  rw [bts_mk, bts_mk] at h
  exact h
/-- What a pipe's conductance c does to row r (node k is free: its number r; node o: number ro if free, else its head x). -/
def putR (m : Nat) (R : Nat → Nat → List UInt8) (r : Option Nat) (ro : Option Nat) (x c : List UInt8) : Nat → Nat → List UInt8 :=
  match r with
  | none => R
  | some r =>
    let R1 := upd R r r (plusT (R r r) c)
    match ro with
    | some q => upd R1 r q (minusT (R1 r q) c)
    | none => upd R1 r m (plusT (R1 r m) (timesT c x))
/-- a free node's number, or -1 -/
def numI (r : Option Nat) : Int := match r with
  | some q => q
  | none => -1
def PutPost (g m : Nat) (R : Nat → Nat → List UInt8) (w : World) (e : Ending) (w' : World) : Prop := e = .returned (.tuple #[]) ∧ RowsIs w' g m R ∧ w.grownBy w' (some g)
theorem _root_.Go.World.grownBy.of_below {w w' : World} (h : Below w.heap.size w w') (g : Nat) : w.grownBy w' (some g) := ⟨h.os, h.tape, h.output, h.size, fun b hb _ => h.block b hb⟩
theorem _root_.Go.World.grownBy.set_ {w w' : World} {g : Nat} (h : w.grownBy w' (some g)) (g' i : Nat) (v : Value) (e : g' = g := by rfl) : w.grownBy (w'.setCell ⟨g', i, none⟩ v) (some g) := by
  subst e
  refine ⟨h.os, h.tape, h.output, by simpa using h.size, fun b hb hn => ?_⟩
  have hne : b ≠ g' := fun e => hn (by rw [e])
  exact (Below.heap_setCell w' ⟨g', i, none⟩ v b hne).trans (h.block b hb hn)
set_option maxRecDepth 100000 in
set_option maxHeartbeats 8000000 in
theorem put_none (N m gA gR bA bR bF bO k o : Nat) (c : List UInt8) (R : Nat → Nat → List UInt8) (w : World) (hA : w.cell? ⟨bA, 0, none⟩ = some (.slice (some ⟨gA, 0, none⟩) N N)) (hk : k < N) (hN : N ≤ 1000)
    (hak : w.cell? ⟨gA, k, none⟩ = some (.int .i64 (-1))) (hR : RowsIs w gR m R) :
    Calls Tryz.prog 80 #[.int .i64 k, .int .i64 o, str c, .pointer (some ⟨bA, 0, none⟩), .pointer (some ⟨bR, 0, none⟩), .pointer (some ⟨bF, 0, none⟩), .pointer (some ⟨bO, 0, none⟩)] w (PutPost gR m R w) := by
  have HR := hide hR
  have hk1 : (k : Int) < (N : Int) := by omega
  go_enter Tryz.func80, Tryz.ntmps80
  go_wp2_with fail
  go_end0
  exact ⟨rfl, HR.out, World.grownBy.refl _ _⟩
theorem grown_by {w w' : World} {g b i : Nat} {v : Value} (h : w.grownBy w' (some g)) (hb : b < w.heap.size) (hne : b ≠ g) (hc : w.cell? ⟨b, i, none⟩ = some v) : w'.cell? ⟨b, i, none⟩ = some v :=
  (World.cell?_of_block (w := w) (w' := w') (a := ⟨b, i, none⟩) (h.block b hb (fun e => hne (by injection e)))).trans hc
theorem grown_trans {w w1 w2 : World} {g : Nat} (h : w.grownBy w1 (some g)) (hb : Below w1.heap.size w1 w2) : w.grownBy w2 (some g) :=
  ⟨hb.os.trans h.os, hb.tape.trans h.tape, hb.output.trans h.output, Nat.le_trans h.size hb.size, fun b hb1 hn => (hb.block b (Nat.lt_of_lt_of_le hb1 h.size)).trans (h.block b hb1 hn)⟩
theorem cell_lt {w : World} {g i : Nat} {v : Value} (h : w.cell? ⟨g, i, none⟩ = some v) : g < w.heap.size := World.block_lt_of_cell? w _ h
set_option maxRecDepth 100000 in
set_option maxHeartbeats 8000000 in
theorem put_free (N m gA gR bA bR bF bO k o r q : Nat) (c : List UInt8) (R : Nat → Nat → List UInt8) (w : World) (hA : w.cell? ⟨bA, 0, none⟩ = some (.slice (some ⟨gA, 0, none⟩) N N)) (hk : k < N) (ho : o < N) (hN : N ≤ 1000)
    (hak : w.cell? ⟨gA, k, none⟩ = some (.int .i64 (r : Int))) (hao : w.cell? ⟨gA, o, none⟩ = some (.int .i64 (q : Int))) (hB : w.cell? ⟨bR, 0, none⟩ = some (.slice (some ⟨gR, 0, none⟩) m m)) (hr : r < m) (hq : q < m) (hm : m ≤ 24) (hR : RowsIs w gR m R)
    (hs : ∀ i j, SmallS (R i j)) (hc : SmallS c) (d1 : bA ≠ gR) (d2 : gA ≠ gR) (d3 : bR ≠ gR) :
    Calls Tryz.prog 80 #[.int .i64 k, .int .i64 o, str c, .pointer (some ⟨bA, 0, none⟩), .pointer (some ⟨bR, 0, none⟩), .pointer (some ⟨bF, 0, none⟩), .pointer (some ⟨bO, 0, none⟩)] w (PutPost gR m (putR m R (some r) (some q) [] c) w) := by
  have HR := hide hR
  have HW := hide (ext_refl w)
  have HS := hide hs
  have hk1 : (k : Int) < (N : Int) := by omega
  have ho1 : (o : Int) < (N : Int) := by omega
  have hr1 : (r : Int) < (m : Int) := by omega
  have hr2 : (0 : Int) ≤ (r : Int) := by omega
  have hr3 : (r : Int) < 25 := by omega
  have hq1 : (q : Int) < 25 := by omega
  have hq2 : (0 : Int) ≤ (q : Int) := by omega
  have lA := cell_lt hA
  have lgA := cell_lt hak
  have lR := cell_lt hB
  have lg := hR.lt
  have cR := hR.cell hr (show r < 25 by omega)
  have HC := hide hc
  clear hs hc hR
  go_enter Tryz.func80, Tryz.ntmps80
  go_wp2_with fail
  go_quiet (fail)
  have hbB := ext_drewN w nq
  have HW_ := hide (ext HW.out hbB)
  have HR_ := hide (HR.out.below hbB)
  clear HW HR
  have HW := HW_
  have HR := HR_
  clear HW_ HR_
  clear hbB
  generalize w.drewN nq = W at HW HR ⊢
  clear nq
  go_wp2_with fail
  have hA1 := (HW.out.cell (p := ⟨bA, 0, none⟩) lA).trans hA
  have hak1 := (HW.out.cell (p := ⟨gA, k, none⟩) lgA).trans hak
  have cR1 := HR.out.cell hr (show r < 25 by omega)
  have lA1 := Nat.lt_of_lt_of_le lA HW.out.size
  have lgA1 := Nat.lt_of_lt_of_le lgA HW.out.size
  have lg1 := HR.out.lt
  clear cR lg
  have hA1g := grown_cell lA1 hA1
  have hak1g := grown_cell lgA1 hak1
  have cR1g := grown_cell lg1 cR1
  refine wp_region_grown_tail 17 (by kernel_rfl) (by kernel_rfl) ?_
  simp only [List.take_succ_cons, List.take_zero, List.drop_succ_cons, List.drop_zero]
  repeat (quiet_step (first | (go_at_call 38; exact call_grown (plus_call _ _ _ (HS.out _ _) HC.out))))
  refine wpQuiet_nil ?_
  rintro w9 ⟨t9, rfl⟩
  clear hA1g hak1g cR1g
  have hbB := grown_below W t9
  have HW_ := hide (ext HW.out hbB)
  have HR_ := hide (HR.out.below hbB)
  clear HW HR
  have HW := HW_
  have HR := HR_
  clear HW_ HR_
  generalize grown W t9 = W2 at hbB HW HR ⊢
  clear t9
  clear hA1 hak1 cR1 lA1 lgA1 lg1 hbB
  have c2 := HR.out.cell hr (show r < 25 by omega)
  have f2 := HR.out.frozen (r * 25 + r)
  have l2 := HR.out.lt
  have HG := hide (World.grownBy.of_below HW.out gR)
  have HR2 := hide (HR.out.set_ (i := r) (show r < 25 by omega) (plusT (R r r) c))
  have HG2 := hide (HG.out.set_ gR (r * 25 + r) (str (plusT (R r r) c)))
  have hA2 := (HW.out.cell (p := ⟨bA, 0, none⟩) lA).trans hA
  have hao2 := (HW.out.cell (p := ⟨gA, o, none⟩) lgA).trans hao
  have e1 : ¬ gR = bA := fun e => d1 e.symm
  have e2 : ¬ gR = gA := fun e => d2 e.symm
  go_wp2_with fail
  generalize W2.setCell ⟨gR, r * 25 + r, none⟩ (.string ⟨(plusT (R r r) c).toArray⟩) = W3 at HR2 HG2 ⊢
  clear c2 f2 l2 hA2 hao2 HG HR HW
  have HS2 : Hid (∀ i j, SmallS (upd R r r (plusT (R r r) c) i j)) := by
    intro i j
    unfold upd
    split
    · exact op2_small _ _ _
    · exact HS.out i j
  have HP : Hid (putR m R (some r) (some q) [] c = upd (upd R r r (plusT (R r r) c)) r q (minusT (upd R r r (plusT (R r r) c) r q) c)) := rfl
  rw [HP.out]
  generalize upd R r r (plusT (R r r) c) = R1 at HR2 HS2 ⊢
  have hA3 := grown_by HG2.out lA d1 hA
  have hao3 := grown_by HG2.out lgA d2 hao
  have lA3 := cell_lt hA3
  have lgA3 := cell_lt hao3
  have cR3 := HR2.out.cell hr (show q < 25 by omega)
  have lg3 := HR2.out.lt
  have HB3 := hide (ext_refl W3)
  have hA3g := grown_cell lA3 hA3
  have hao3g := grown_cell lgA3 hao3
  have cR3g := grown_cell lg3 cR3
  refine wp_region_grown_tail 17 (by kernel_rfl) (by kernel_rfl) ?_
  simp only [List.take_succ_cons, List.take_zero, List.drop_succ_cons, List.drop_zero]
  repeat (quiet_step (first | (go_at_call 40; exact call_grown (minus_call _ _ _ (HS2.out _ _) HC.out))))
  refine wpQuiet_nil ?_
  rintro w9 ⟨t9, rfl⟩
  clear hA3g hao3g cR3g
  have hbB := grown_below W3 t9
  have HB3_ := hide (ext HB3.out hbB)
  have HR2_ := hide (HR2.out.below hbB)
  clear HB3 HR2
  have HB3 := HB3_
  have HR2 := HR2_
  clear HB3_ HR2_
  generalize grown W3 t9 = W4 at hbB HB3 HR2 ⊢
  clear t9
  clear hA3 hao3 cR3 lA3 lgA3 lg3 hbB
  have c2 := HR2.out.cell hr (show q < 25 by omega)
  have f2 := HR2.out.frozen (r * 25 + q)
  have l2 := HR2.out.lt
  have HR3 := hide (HR2.out.set_ (i := r) (show q < 25 by omega) (minusT (R1 r q) c))
  have HG3 := hide ((grown_trans HG2.out HB3.out).set_ gR (r * 25 + q) (str (minusT (R1 r q) c)))
  go_wp2_with fail
  go_end0
  exact ⟨rfl, HR3.out, HG3.out⟩
set_option maxRecDepth 100000 in
set_option maxHeartbeats 8000000 in
theorem put_fixed (N m gA gR gO bA bR bF bO k o r cF : Nat) (F : Option Addr) (c x : List UInt8) (R : Nat → Nat → List UInt8) (w : World) (hA : w.cell? ⟨bA, 0, none⟩ = some (.slice (some ⟨gA, 0, none⟩) N N)) (hk : k < N) (ho : o < N) (hN : N ≤ 1000)
    (hak : w.cell? ⟨gA, k, none⟩ = some (.int .i64 (r : Int))) (hao : w.cell? ⟨gA, o, none⟩ = some (.int .i64 (-1))) (hB : w.cell? ⟨bR, 0, none⟩ = some (.slice (some ⟨gR, 0, none⟩) m m)) (hr : r < m) (hF : w.cell? ⟨bF, 0, none⟩ = some (.slice F m cF)) (hO : w.cell? ⟨bO, 0, none⟩ = some (.slice (some ⟨gO, 0, none⟩) N N)) (hxo : w.cell? ⟨gO, o, none⟩ = some (str x)) (hx : SmallS x) (hm : m ≤ 24) (hR : RowsIs w gR m R)
    (hs : ∀ i j, SmallS (R i j)) (hc : SmallS c) (d1 : bA ≠ gR) (d2 : gA ≠ gR) (d3 : bR ≠ gR) (d4 : bF ≠ gR) (d5 : bO ≠ gR) (d6 : gO ≠ gR) :
    Calls Tryz.prog 80 #[.int .i64 k, .int .i64 o, str c, .pointer (some ⟨bA, 0, none⟩), .pointer (some ⟨bR, 0, none⟩), .pointer (some ⟨bF, 0, none⟩), .pointer (some ⟨bO, 0, none⟩)] w (PutPost gR m (putR m R (some r) none x c) w) := by
  have HR := hide hR
  have HW := hide (ext_refl w)
  have HS := hide hs
  have hk1 : (k : Int) < (N : Int) := by omega
  have ho1 : (o : Int) < (N : Int) := by omega
  have hr1 : (r : Int) < (m : Int) := by omega
  have hr2 : (0 : Int) ≤ (r : Int) := by omega
  have hr3 : (r : Int) < 25 := by omega
  have hm1 : (m : Int) < 25 := by omega
  have hm2 : (0 : Int) ≤ (m : Int) := by omega
  have HX := hide hx
  have lF := cell_lt hF
  have lO := cell_lt hO
  have lgO := cell_lt hxo
  have lA := cell_lt hA
  have lgA := cell_lt hak
  have lR := cell_lt hB
  have lg := hR.lt
  have cR := hR.cell hr (show r < 25 by omega)
  have HC := hide hc
  clear hs hc hR hx
  go_enter Tryz.func80, Tryz.ntmps80
  go_wp2_with fail
  go_quiet (fail)
  have hbB := ext_drewN w nq
  have HW_ := hide (ext HW.out hbB)
  have HR_ := hide (HR.out.below hbB)
  clear HW HR
  have HW := HW_
  have HR := HR_
  clear HW_ HR_
  clear hbB
  generalize w.drewN nq = W at HW HR ⊢
  clear nq
  go_wp2_with fail
  have hA1 := (HW.out.cell (p := ⟨bA, 0, none⟩) lA).trans hA
  have hak1 := (HW.out.cell (p := ⟨gA, k, none⟩) lgA).trans hak
  have cR1 := HR.out.cell hr (show r < 25 by omega)
  have lA1 := Nat.lt_of_lt_of_le lA HW.out.size
  have lgA1 := Nat.lt_of_lt_of_le lgA HW.out.size
  have lg1 := HR.out.lt
  clear cR lg
  have hA1g := grown_cell lA1 hA1
  have hak1g := grown_cell lgA1 hak1
  have cR1g := grown_cell lg1 cR1
  refine wp_region_grown_tail 17 (by kernel_rfl) (by kernel_rfl) ?_
  simp only [List.take_succ_cons, List.take_zero, List.drop_succ_cons, List.drop_zero]
  repeat (quiet_step (first | (go_at_call 38; exact call_grown (plus_call _ _ _ (HS.out _ _) HC.out))))
  refine wpQuiet_nil ?_
  rintro w9 ⟨t9, rfl⟩
  clear hA1g hak1g cR1g
  have hbB := grown_below W t9
  have HW_ := hide (ext HW.out hbB)
  have HR_ := hide (HR.out.below hbB)
  clear HW HR
  have HW := HW_
  have HR := HR_
  clear HW_ HR_
  generalize grown W t9 = W2 at hbB HW HR ⊢
  clear t9
  clear hA1 hak1 cR1 lA1 lgA1 lg1 hbB
  have c2 := HR.out.cell hr (show r < 25 by omega)
  have f2 := HR.out.frozen (r * 25 + r)
  have l2 := HR.out.lt
  have HG := hide (World.grownBy.of_below HW.out gR)
  have HR2 := hide (HR.out.set_ (i := r) (show r < 25 by omega) (plusT (R r r) c))
  have HG2 := hide (HG.out.set_ gR (r * 25 + r) (str (plusT (R r r) c)))
  have hA2 := (HW.out.cell (p := ⟨bA, 0, none⟩) lA).trans hA
  have hao2 := (HW.out.cell (p := ⟨gA, o, none⟩) lgA).trans hao
  have e1 : ¬ gR = bA := fun e => d1 e.symm
  have e2 : ¬ gR = gA := fun e => d2 e.symm
  go_wp2_with fail
  generalize W2.setCell ⟨gR, r * 25 + r, none⟩ (.string ⟨(plusT (R r r) c).toArray⟩) = W3 at HR2 HG2 ⊢
  clear c2 f2 l2 hA2 hao2 HG HR HW
  have HS2 : Hid (∀ i j, SmallS (upd R r r (plusT (R r r) c) i j)) := by
    intro i j
    unfold upd
    split
    · exact op2_small _ _ _
    · exact HS.out i j
  have HP : Hid (putR m R (some r) none x c = upd (upd R r r (plusT (R r r) c)) r m (plusT (upd R r r (plusT (R r r) c) r m) (timesT c x))) := rfl
  rw [HP.out]
  generalize upd R r r (plusT (R r r) c) = R1 at HR2 HS2 ⊢
  have hF3 := grown_by HG2.out lF d4 hF
  have hO3 := grown_by HG2.out lO d5 hO
  have hx3 := grown_by HG2.out lgO d6 hxo
  have lF3 := cell_lt hF3
  have lO3 := cell_lt hO3
  have lgO3 := cell_lt hx3
  have cR3 := HR2.out.cell hr (show m < 25 by omega)
  have lg3 := HR2.out.lt
  have HB3 := hide (ext_refl W3)
  have hF3g := grown_cell lF3 hF3
  have hO3g := grown_cell lO3 hO3
  have hx3g := grown_cell lgO3 hx3
  have cR3g := grown_cell lg3 cR3
  refine wp_region_grown_tail 18 (by kernel_rfl) (by kernel_rfl) ?_
  simp only [List.take_succ_cons, List.take_zero, List.drop_succ_cons, List.drop_zero]
  repeat (quiet_step (first | (go_at_call 39; exact call_grown (times_call _ _ _ HC.out HX.out)) | (go_at_call 38; exact call_grown (plus_call _ _ _ (HS2.out _ _) (op2_small _ _ _)))))
  refine wpQuiet_nil ?_
  rintro w9 ⟨t9, rfl⟩
  clear hF3g hO3g hx3g cR3g
  have hbB := grown_below W3 t9
  have HB3_ := hide (ext HB3.out hbB)
  have HR2_ := hide (HR2.out.below hbB)
  clear HB3 HR2
  have HB3 := HB3_
  have HR2 := HR2_
  clear HB3_ HR2_
  generalize grown W3 t9 = W4 at hbB HB3 HR2 ⊢
  clear t9
  clear hF3 hO3 hx3 cR3 lF3 lO3 lgO3 lg3 hbB
  have c2 := HR2.out.cell hr (show m < 25 by omega)
  have f2 := HR2.out.frozen (r * 25 + m)
  have l2 := HR2.out.lt
  have HR3 := hide (HR2.out.set_ (i := r) (show m < 25 by omega) (plusT (R1 r m) (timesT c x)))
  have HG3 := hide ((grown_trans HG2.out HB3.out).set_ gR (r * 25 + m) (str (plusT (R1 r m) (timesT c x))))
  go_wp2_with fail
  go_end0
  exact ⟨rfl, HR3.out, HG3.out⟩
end Go.Proofs.YtdecgcdkaaiglaaGreat
namespace Go.Proofs.YtdecgcdkaaiglaaGreat
open Go.RowKit Go.Deep
attribute [local go_sem ↓] Go.wp_at_zero Go.wp_at_succ
theorem info25 : (Tryz.prog.info? 106).map (·.size) = some 25 := by kernel_rfl
theorem infoFrac : (Tryz.prog.info? 28).map (fun i => (i.zero, i.size, i.bytes)) = some (some (.string ⟨#[]⟩), 1, 16) := by kernel_rfl
theorem txt_small {A : Tab} {i c : Nat} (h : Short 50000 (A i c)) : SmallS (txt A i c) := by
  have := fracText_len h
  unfold SmallS txt; omega
theorem frac_small {q : Rat} (h : Short 50000 q) : SmallS (fracText q) := by
  have := fracText_len h
  unfold SmallS; omega
theorem txt_swapped (A : Tab) (k p : Nat) : updRow (updRow (txt A) k (txt A p)) p (txt A k) = txt (swapped A k p) := by
  funext i c
  unfold updRow txt swapped
  by_cases h1 : i = p
  · subst h1
    by_cases h2 : i = k
    · subst h2; simp
    · simp [h2]
  · by_cases h2 : i = k
    · subst h2; simp [h1]
    · simp [h1, h2]
theorem txt_part {A : Tab} {k i c : Nat} (hc : k ≤ c) : upd (txt (part A k i c)) i c (fracText (A i c - A i k / A k k * A k c)) = txt (part A k i (c + 1)) := by
  rw [← part_upd hc]
  funext i' c'
  unfold upd txt
  by_cases h : i' = i ∧ c' = c
  · rw [if_pos h]; simp [h]
  · rw [if_neg h]; simp [h]
theorem grownBy_below {w w1 w2 : World} {g : Nat} (h : w.grownBy w1 (some g)) (hb : Below w1.heap.size w1 w2) : w.grownBy w2 (some g) := grown_trans h hb
theorem grownBy_setCells {w : World} {g : Nat} (vs : List Value) : ∀ {w' : World} (h : w.grownBy w' (some g)) (o : Nat), w.grownBy (w'.setCells g o vs) (some g) := by
  induction vs with
  | nil => intro w' h o; exact h
  | cons v r ih => intro w' h o; exact ih (h.set_ g o v) (o + 1)
theorem grownBy_append {w w1 w2 w3 : World} {g : Nat} {row : Option Nat} (h : w.grownBy w1 (some g)) (hb : Below w1.heap.size w1 w2) (hg : w2.grownBy w3 row) (hr : ∀ k, row = some k → w.heap.size ≤ k) : w.grownBy w3 (some g) := by
  have h2 := grown_trans h hb
  exact ⟨hg.os.trans h2.os, hg.tape.trans h2.tape, hg.output.trans h2.output, Nat.le_trans h2.size hg.size, fun b hb1 hn => (hg.block b (Nat.lt_of_lt_of_le hb1 h2.size) (fun e => by have := hr b e.symm; omega)).trans (h2.block b hb1 hn)⟩
theorem range_snoc {i : Nat} (f : Nat → Value) : (List.range (i + 1)).map f = (List.range i).map f ++ [f i] := by rw [List.range_succ, List.map_append]; rfl
/-- The columns' loop. -/
def SolK (m E g : Nat) (A0 : Tab) (w : World) (iv : Value) (wr : World) : Prop :=
  ∃ (k : Nat) (A : Tab), k ≤ m ∧ iv = .int .i64 k ∧ Hid (Elim m A0 E k A) ∧ Hid (RowsIs wr g m (txt A)) ∧ Hid (w.grownBy wr (some g))
/-- The rows' loop, in column k. -/
def SolI (m k g : Nat) (B : Tab) (w : World) (iv : Value) (wr : World) : Prop :=
  ∃ i : Nat, i ≤ m ∧ iv = .int .i64 i ∧ Hid (RowsIs wr g m (txt (freed B k i))) ∧ Hid (w.grownBy wr (some g))
/-- One row's loop. -/
def SolC (m k i g : Nat) (B : Tab) (w : World) (cv : Value) (wr : World) : Prop :=
  ∃ c : Nat, k ≤ c ∧ c ≤ m + 1 ∧ cv = .int .i64 c ∧ Hid (RowsIs wr g m (txt (part B k i c))) ∧ Hid (w.grownBy wr (some g))
/-- The answers' loop. -/
def SolO (m g : Nat) (A : Tab) (w : World) (ov iv : Value) (wr : World) : Prop :=
  ∃ i : Nat, i ≤ m ∧ iv = .int .i64 i ∧ Hid (wr.ownsRow w.heap.size 28 1 ov i ((List.range i).map fun i => str (fracText (A i m / A i i)))) ∧ Hid (RowsIs wr g m (txt A)) ∧ Hid (w.grownBy wr (some g))
def SolvedPost (m E : Nat) (A0 : Tab) (g : Nat) (w : World) (e : Ending) (w' : World) : Prop :=
  ∃ v A, e = .returned v ∧ Elim m A0 E m A ∧ w'.ownsRow w.heap.size 28 1 v m ((List.range m).map fun i => str (fracText (A i m / A i i))) ∧ w.grownBy w' (some g)
set_option maxRecDepth 100000 in
set_option maxHeartbeats 16000000 in
theorem water_solved (g m E : Nat) (A0 : Tab) (w : World) (hR : RowsIs w g m (txt A0)) (h0 : Elim m A0 E 0 A0) (hm : m ≤ 24) (hE : E * 2 ^ m ≤ 49999) :
    Calls Tryz.prog 81 #[.slice (some ⟨g, 0, none⟩) m m, .int .i64 m, .func (.func 40) #[] #[], .func (.func 39) #[] #[], .func (.func 69) #[] #[]] w (SolvedPost m E A0 g w) := by
  have HGL := hide hR.lt
  have HR := hide hR
  have H0 := hide h0
  have HG := hide (World.grownBy.refl w (some g))
  have HE := hide hE
  clear hR h0 hE
  go_enter Tryz.func81, Tryz.ntmps81
  go_wp2_with fail
  go_loopw [19] (SolK m E g A0 w) (fun iv _ => m - (intOf iv).toNat)
  case atStart => exact ⟨0, A0, Nat.zero_le _, rfl, H0, HR, HG⟩
  case round =>
    clear H0 HR HG
    obtain ⟨k, A, hk, rfl, HEl, HR, HG⟩ := hrel
    by_cases hlt : k < m
    · obtain ⟨p0, hp1, hp2, hne⟩ := HEl.out.1.pivot hlt
      have HNE := hide hne
      have hk25 : (k : Int) < 25 := by omega
      clear hne
      go_wp2_with fail
      go_loop [12] (fun pv => ∃ p : Nat, k ≤ p ∧ p ≤ p0 ∧ pv = .int .i64 p) (fun pv => p0 - (intOf pv).toNat)
      case atStart => exact ⟨k, Nat.le_refl _, hp1, rfl⟩
      case round =>
        obtain ⟨p, hp3, hp4, rfl⟩ := hrel
        have hpm : p < m := by omega
        have cp := HR.out.cell hpm (show k < 25 by omega)
        have hpi : (p : Int) < (m : Int) := by omega
        by_cases hz : A p k = 0
        · have hI : (txt A p k == [48]) = true := by rw [beq_iff_eq]; exact fracText_zero_iff.2 hz
          have hpp : p < p0 := by
            rcases Nat.lt_or_ge p p0 with h | h
            · exact h
            · obtain rfl : p = p0 := by omega
              exact absurd hz HNE.out
          clear hz
          go_wp2_with fail
          go_round
          case rel => exact ⟨p + 1, by omega, by omega, by go_num⟩
          case measure => simp [intOf]; omega
        · have hI : (txt A p k == [48]) = false := by rw [beq_eq_false_iff_ne]; exact fun e => hz (fracText_zero_iff.1 e)
          have HZ := hide hz
          clear hz
          have hki : (k : Int) < (m : Int) := by omega
          obtain ⟨RP, hRP⟩ : ∃ x, x = rowCells (txt A p) := ⟨_, rfl⟩
          obtain ⟨RK, hRK⟩ : ∃ x, x = rowCells (txt A k) := ⟨_, rfl⟩
          have hlp : ∀ w', (∃ t : Grow wr, w' = grown wr t) → (Instr.loadAt 106 (.pointer (some ⟨g, p * 25, none⟩))).run Tryz.prog w' = .ok (.agg RP.toArray) w' := fun w' ⟨t, ht⟩ => by
            subst ht; rw [hRP]; exact run_loadAt_mid _ _ _ _ _ _ ((HR.out.below t.below).range hpm) Tryz.underlying106 rfl (by rw [rowCells_length]; exact info25)
          have hlk : ∀ w', (∃ t : Grow wr, w' = grown wr t) → (Instr.loadAt 106 (.pointer (some ⟨g, k * 25, none⟩))).run Tryz.prog w' = .ok (.agg RK.toArray) w' := fun w' ⟨t, ht⟩ => by
            subst ht; rw [hRK]; exact run_loadAt_mid _ _ _ _ _ _ ((HR.out.below t.below).range hlt) Tryz.underlying106 rfl (by rw [rowCells_length]; exact info25)
          have HLP := hide hlp
          have HLK := hide hlk
          have HRP := hide hRP
          have HRK := hide hRK
          clear hRP hRK hlp hlk
          go_wp2_with fail
          clear cp
          refine wp_region_grown_from 4 13 (by kernel_rfl) (by kernel_rfl) ?_ ?_
          · intro _ _ _ _ _ h9; exact h9
          simp only [List.take_succ_cons, List.take_zero, List.drop_succ_cons, List.drop_zero]
          refine wpPure_step (fun K hK => ?_)
          go_simp
          refine hK _ ?_
          clear hK K
          refine wpPure_step (fun K hK => ?_)
          go_simp
          refine hK _ ?_
          clear hK K
          refine wpPure_step (fun K hK => ?_)
          go_simp
          refine hK _ ?_
          clear hK K
          refine wpPure_step (fun K hK => ?_)
          go_simp
          refine hK _ ?_
          clear hK K
          refine wpPure_nil ?_
          repeat (quiet_step (first | (fail)))
          refine wpQuiet_step (fun K hK => ?_)
          rw [if_pos (by rfl)]
          refine quiet_load _ _ rfl rfl HLP.out (hK _ ?_)
          clear hK K
          simp only [Act.put, List.setIfInBounds_toArray, List.set_cons_zero, List.set_cons_succ]
          repeat (quiet_step (first | (fail)))
          refine wpQuiet_step (fun K hK => ?_)
          rw [if_pos (by rfl)]
          refine quiet_load _ _ rfl rfl HLK.out (hK _ ?_)
          clear hK K
          simp only [Act.put, List.setIfInBounds_toArray, List.set_cons_zero, List.set_cons_succ]
          repeat (quiet_step (first | (fail)))
          refine wpQuiet_nil ?_
          rintro w9 ⟨t9, rfl⟩
          have hbB := grown_below wr t9
          have HR_ := hide (HR.out.below hbB)
          have HG_ := hide (grownBy_below HG.out hbB)
          clear HR HG
          have HR := HR_
          have HG := HG_
          clear HR_ HG_
          generalize grown wr t9 = WN at hbB HR HG ⊢
          clear t9
          clear HLP HLK hbB
          have e1 : RP.toArray.size = 25 := by simp [HRP.out, rowCells_length]
          have e2 : RK.toArray.size = 25 := by simp [HRK.out, rowCells_length]
          have hb1 : ∀ v ∈ RP, v.oneCell' = true := by rw [HRP.out]; exact rowCells_one _
          have hb2 : ∀ v ∈ RK, v.oneCell' = true := by rw [HRK.out]; exact rowCells_one _
          have HR1 := HR.out.setRow hlt (txt A p)
          have HG1 := hide (grownBy_setCells (rowCells (txt A p)) HG.out (k * 25))
          rw [← HRP.out] at HR1 HG1
          have HR1 := hide HR1
          have HR2 := HR1.out.setRow hpm (txt A k)
          have HG2 := hide (grownBy_setCells (rowCells (txt A k)) HG1.out (p * 25))
          rw [← HRK.out] at HR2 HG2
          rw [txt_swapped] at HR2
          have HR2 := hide HR2
          have HEB := hide (HEl.out.swapped hp3 hpm)
          have HB0 : Hid (swapped A k p k k ≠ 0) := hide (by unfold swapped; rw [if_pos rfl]; exact HZ.out)
          have hst1 : (storeCells ⟨g, k * 25, none⟩ RP 0).run Tryz.prog WN = .ok () (WN.setCells g (k * 25) RP) := by
            have ht := HR.out.there_ hlt
            exact run_storeCells_cells (P := Tryz.prog) g (k * 25) RP 0 WN (fun j hj => (ht j (by simp at e1; omega)).1) (fun j hj => (ht j (by simp at e1; omega)).2) hb1
          have hst2 : (storeCells ⟨g, p * 25, none⟩ RK 0).run Tryz.prog (WN.setCells g (k * 25) RP) = .ok () ((WN.setCells g (k * 25) RP).setCells g (p * 25) RK) := by
            have ht := HR1.out.there_ hpm
            exact run_storeCells_cells (P := Tryz.prog) g (p * 25) RK 0 _ (fun j hj => (ht j (by simp at e2; omega)).1) (fun j hj => (ht j (by simp at e2; omega)).2) hb2
          have e3 : RP.length = 25 := by simpa using e1
          have e4 : RK.length = 25 := by simpa using e2
          generalize WN.setCells g (k * 25) RP = W2 at HR1 HG1 HR2 HG2 hst1 hst2 ⊢
          clear e1 e2 hb1 hb2
          go_wp2_with fail
          clear HR HG HR1 HG1 hst1 hst2 e3 e4
          generalize W2.setCells g (p * 25) RK = W3 at HR2 HG2 ⊢
          clear HRP HRK HEl HZ
          generalize swapped A k p = B at HR2 HEB HB0
          clear hp1 hp2 HNE hp3 hp4 hpi hpm
          go_wp2_with fail
          go_loopw [47] (SolI m k g B w) (fun iv _ => m - (intOf iv).toNat)
          case atStart => exact ⟨0, Nat.zero_le _, rfl, by rw [freed_zero]; exact HR2, HG2⟩
          case round =>
            clear HR2 HG2
            obtain ⟨i, hi, rfl, HR, HG⟩ := hrel
            by_cases hil : i < m
            · have hii : (i : Int) < (m : Int) := by omega
              have ci := HR.out.cell hil (show k < 25 by omega)
              have ck := HR.out.cell hlt (show k < 25 by omega)
              have lg := HR.out.lt
              by_cases hik : i = k
              · have hd : ((i : Int) == (k : Int)) = true := by rw [beq_iff_eq]; omega
                have HS := hide (freed_skip (A := B) (k := k) (i := i) (.inl hik))
                clear ci ck hik
                go_wp2_with fail
                go_round
                case rel => exact ⟨i + 1, by omega, by go_num, by rw [HS.out]; exact HR, HG⟩
                case measure => simp [intOf]; omega
              · have hd : ((i : Int) == (k : Int)) = false := by rw [beq_eq_false_iff_ne]; omega
                have HIK := hide hik
                have er : txt (freed B k i) i k = fracText (B i k) := by unfold txt; rw [freed_row]
                have ek : txt (freed B k i) k k = fracText (B k k) := by unfold txt; rw [freed_krow]
                rw [er] at ci
                rw [ek] at ck
                clear er ek hik
                by_cases hz : B i k = 0
                · have hI : (fracText (B i k) == [48]) = true := by rw [beq_iff_eq]; exact fracText_zero_iff.2 hz
                  have HS := hide (freed_skip (A := B) (k := k) (i := i) (.inr hz))
                  clear hz
                  go_wp2_with fail
                  go_round
                  case rel => exact ⟨i + 1, by omega, by go_num, by rw [HS.out]; exact HR, HG⟩
                  case measure => simp [intOf]; omega
                · have hI : (fracText (B i k) == [48]) = false := by rw [beq_eq_false_iff_ne]; exact fun e => hz (fracText_zero_iff.1 e)
                  have s1 := HEB.out.short (Nat.le_of_lt hlt) HE.out hil (Nat.le_of_lt hlt)
                  have s2 := HEB.out.short (Nat.le_of_lt hlt) HE.out hlt (Nat.le_of_lt hlt)
                  have s3 := HEB.out.quot hlt HE.out hil (Nat.le_of_lt hlt) HB0.out
                  have hov := fun w' => over_call (fracText (B i k)) (fracText (B k k)) w' (frac_small s1) (frac_small s2)
                  unfold overT at hov
                  rw [div2_txt s1 s2 HB0.out s3] at hov
                  clear hz s1 s2 s3
                  go_wp2_with fail
                  have cig := grown_cell lg ci
                  have ckg := grown_cell lg ck
                  refine wp_region_grown (by kernel_rfl) (by kernel_rfl) ?_
                  repeat (quiet_step (first | (go_at_call 69; exact call_grown (hov _))))
                  refine wpQuiet_nil ?_
                  rintro w9 ⟨t9, rfl⟩
                  clear cig ckg
                  have hbB := grown_below wr t9
                  have HR_ := hide (HR.out.below hbB)
                  have HG_ := hide (grownBy_below HG.out hbB)
                  clear HR HG
                  have HR := HR_
                  have HG := HG_
                  clear HR_ HG_
                  generalize grown wr t9 = WN at hbB HR HG ⊢
                  clear t9
                  clear ci ck lg hbB hov
                  go_wp2_with fail
                  go_loopw [15] (SolC m k i g B w) (fun cv _ => m + 1 - (intOf cv).toNat)
                  case atStart => exact ⟨k, Nat.le_refl _, by omega, rfl, by rw [part_start]; exact HR, HG⟩
                  case round =>
                    clear HR HG
                    obtain ⟨c, hc1, hc2, rfl, HR, HG⟩ := hrel
                    by_cases hcl : c ≤ m
                    · have hci : (c : Int) ≤ (m : Int) := by omega
                      have hc25 : (c : Int) < 25 := by omega
                      have ci := HR.out.cell hil (show c < 25 by omega)
                      have ck := HR.out.cell hlt (show c < 25 by omega)
                      have lg := HR.out.lt
                      have er : txt (part B k i c) i c = fracText (B i c) := by unfold txt; rw [part_row (Nat.le_refl _)]
                      have ek : txt (part B k i c) k c = fracText (B k c) := by unfold txt; rw [part_k HIK.out]
                      rw [er] at ci
                      rw [ek] at ck
                      have s1 := HEB.out.short (Nat.le_of_lt hlt) HE.out hil hcl
                      have s2 := HEB.out.short (Nat.le_of_lt hlt) HE.out hlt hcl
                      have s3 := HEB.out.quot hlt HE.out hil (Nat.le_of_lt hlt) HB0.out
                      have s4 := HEB.out.prod hlt HE.out hil hcl HB0.out
                      have s5 := HEB.out.diff hlt HE.out hil HIK.out hcl HB0.out
                      have htm := fun w' => times_call (fracText (B i k / B k k)) (fracText (B k c)) w' (frac_small s3) (frac_small s2)
                      have hmi := fun w' => minus_call (fracText (B i c)) (fracText (B i k / B k k * B k c)) w' (frac_small s1) (frac_small s4)
                      unfold timesT at htm
                      unfold minusT at hmi
                      rw [op2_txt s3 s2 s4] at htm
                      rw [op2_txt s1 s4 s5] at hmi
                      clear s1 s2 s3 s4 s5 er ek
                      go_wp2_with fail
                      have cig := grown_cell lg ci
                      have ckg := grown_cell lg ck
                      refine wp_region_grown_tail 22 (by kernel_rfl) (by kernel_rfl) ?_
                      simp only [List.take_succ_cons, List.take_zero, List.drop_succ_cons, List.drop_zero]
                      repeat (quiet_step (first | (go_at_call 39; exact call_grown (htm _)) | (go_at_call 40; exact call_grown (hmi _))))
                      refine wpQuiet_nil ?_
                      rintro w9 ⟨t9, rfl⟩
                      clear cig ckg
                      have hbB := grown_below wr t9
                      have HR_ := hide (HR.out.below hbB)
                      have HG_ := hide (grownBy_below HG.out hbB)
                      clear HR HG
                      have HR := HR_
                      have HG := HG_
                      clear HR_ HG_
                      generalize grown wr t9 = WN at hbB HR HG ⊢
                      clear t9
                      clear ci ck lg hbB htm hmi
                      have c2 := HR.out.cell hil (show c < 25 by omega)
                      have f2 := HR.out.frozen (i * 25 + c)
                      have l2 := HR.out.lt
                      have hR2 := HR.out.set_ (i := i) (show c < 25 by omega) (fracText (B i c - B i k / B k k * B k c))
                      rw [txt_part hc1] at hR2
                      have HR2 := hide hR2
                      have HG2 := hide (HG.out.set_ g (i * 25 + c) (str (fracText (B i c - B i k / B k k * B k c))))
                      clear hR2
                      go_wp2_with fail
                      go_round
                      case rel => exact ⟨c + 1, by omega, by omega, by go_num, HR2, HG2⟩
                      case measure => simp [intOf]; omega
                    · obtain rfl : c = m + 1 := by omega
                      have hR := HR.out
                      rw [part_done HEB.out hlt HIK.out] at hR
                      have HR2 := hide hR
                      clear hR HR
                      go_wp2_with fail
                      go_round
                      case rel => exact ⟨i + 1, by omega, by go_num, HR2, HG⟩
                      case measure => simp [intOf]; omega
            · obtain rfl : i = m := by omega
              have HEN := hide (HEB.out.freed hlt HB0.out)
              go_wp2_with fail
              go_round
              case rel => exact ⟨k + 1, freed B k i, by omega, by go_num, HEN, HR, HG⟩
              case measure => simp [intOf]; omega
    · obtain rfl : k = m := by omega
      obtain ⟨i0, hi0, hz0, hz1, hz2⟩ := info_parts infoFrac
      clear hlt
      go_wp2_with fail
      go_loopw [16, 107] (SolO k g A w) (fun _ iv _ => k - (intOf iv).toNat)
      case atStart => exact ⟨0, Nat.zero_le _, rfl, World.ownsRow_nil _ _ _ _, HR, HG⟩
      case round =>
        clear HR HG
        obtain ⟨i, hi, rfl, HO, HR, HG⟩ := hrel
        by_cases hil : i < k
        · have hii : (i : Int) < (k : Int) := by omega
          have hk25 : (k : Int) < 25 := by omega
          have hi25 : (i : Int) < 25 := by omega
          have ci := HR.out.cell hil (show k < 25 by omega)
          have ck := HR.out.cell hil (show i < 25 by omega)
          have lg := HR.out.lt
          have s1 := HEl.out.short (Nat.le_refl _) HE.out hil (Nat.le_refl _)
          have s2 := HEl.out.short (Nat.le_refl _) HE.out hil (Nat.le_of_lt hil)
          have s3 := HEl.out.answer HE.out hil
          have hov := fun w' => over_call (fracText (A i k)) (fracText (A i i)) w' (frac_small s1) (frac_small s2)
          unfold overT at hov
          rw [div2_txt s1 s2 (HEl.out.1.2.1 i hil).1 s3] at hov
          unfold txt at ci ck
          clear s1 s2 s3
          go_wp2_with fail
          have cig := grown_cell lg ci
          have ckg := grown_cell lg ck
          refine wp_region_grown_from 1 15 (by kernel_rfl) (by kernel_rfl) ?_ ?_
          · intro _ _ _ _ _ h9; exact h9
          simp only [List.take_succ_cons, List.take_zero, List.drop_succ_cons, List.drop_zero]
          refine wpPure_step (fun K hK => ?_)
          go_simp
          refine hK _ ?_
          clear hK K
          refine wpPure_nil ?_
          repeat (quiet_step (first | (go_at_call 69; exact call_grown (hov _))))
          refine wpQuiet_nil ?_
          rintro w9 ⟨t9, rfl⟩
          clear cig ckg
          have hbB := grown_below wr t9
          have HR_ := hide (HR.out.below hbB)
          have HG_ := hide (grownBy_below HG.out hbB)
          have HO_ := hide (own_below HO.out hbB)
          clear HR HG HO
          have HR := HR_
          have HG := HG_
          have HO := HO_
          clear HR_ HG_ HO_
          generalize grown wr t9 = WN at hbB HR HG HO ⊢
          clear t9
          clear ci ck lg hbB hov
          have h1c : ∀ u ∈ [str (fracText (A i k / A i i))], u.oneCell' = true := by
            intro u hu
            rw [List.mem_singleton] at hu
            subst hu; rfl
          have hrd := reads_new WN 28 (str (fracText (A i k / A i i)))
          go_wp2_with (at_builtin; refine wpList_append_any _ rfl (.tmp 110) (.tmp 125) _ rfl w.heap.size 28 i0 _ 1 16 Tryz.underlying27 hi0 hz0 hz1 hz2 rfl (by omega) _ i _ rfl (HO.out.alloc _) _ (some ⟨WN.heap.size, 0, none⟩) 1 1 _ rfl hrd h1c ?o2 ?o3 ?o4 ?_)
          case o2 => unfold maxLen; omega
          case o3 => omega
          case o4 => have := HG.out.size; simp; omega
          intro v3 w3 hown3 hgr3 hat3
          have hge := own_ge HO.out
          have hx := ext_alloc WN (.cells #[str (fracText (A i k / A i i))] 28)
          have HG3 := hide (grownBy_append HG.out hx hgr3 (fun k hk => by have := hge k hk; omega))
          have HR3 : Hid (RowsIs w3 g k (txt A)) := Blk.grown (HR.out.below hx) hgr3 (fun e => by have := hge _ e.symm; have := HGL.out; omega)
          have HO3 : Hid (w3.ownsRow w.heap.size 28 1 v3 (i + 1) ((List.range (i + 1)).map fun i => str (fracText (A i k / A i i)))) := by
            rw [range_snoc]
            exact hown3
          clear hown3 hgr3 hat3 hge hx hrd h1c
          go_wp2_with fail
          go_roundw
          case rel => exact ⟨i + 1, by omega, by go_num, HO3, HR3, HG3⟩
          case measure => simp [intOf]; omega
        · obtain rfl : i = k := by omega
          go_wp2_with fail
          go_ret
          exact ⟨_, A, rfl, HEl.out, HO.out, HG.out⟩
end Go.Proofs.YtdecgcdkaaiglaaGreat
namespace Go.Proofs.YtdecgcdkaaiglaaGreat
/-- What is known of a net whose heads are asked for. -/
structure Given (N np : Nat) (pf pt : Nat → Nat) (c : Nat → Rat) (fx : Nat → Option Rat) (wl : Nat → Rat) (asked : Nat → Bool) : Prop where
  piped : Piped N np pf pt c
  tied : Tied N np pf pt fx asked
  cd : ∀ i, i < np → Dz 12 (c i)
  fd : ∀ k, k < N → Dz 12 (outOf fx k)
  wd : ∀ k, k < N → Dz 12 (wl k)
  hN : N ≤ 6
  hp : np ≤ 9
section
variable {N np : Nat} {pf pt : Nat → Nat} {c : Nat → Rat} {fx : Nat → Option Rat} {wl : Nat → Rat} {asked : Nat → Bool}
/-- what takes the denominators of a row away -/
def rowDen (N np : Nat) (c : Nat → Rat) (fx : Nat → Option Rat) (wl : Nat → Rat) (asked : Nat → Bool) (i : Nat) : Int :=
  ((prodTo np (fun j => (c j).den) : Int) * (prodTo N (fun k => (outOf fx k).den) : Int)) * ((wl ((frees (isFree fx asked) N).getD i 0)).den : Int)
def bigB (N np : Nat) : Nat := 10 ^ (12 * np + 12 * N + 12)
variable (h : Given N np pf pt c fx wl asked)
include h
theorem Given.den_ok {i : Nat} (hi : i < rank (isFree fx asked) N) : rowDen N np c fx wl asked i ≠ 0 ∧ (rowDen N np c fx wl asked i).natAbs ≤ bigB N np := by
  obtain ⟨m1, _, _⟩ := frees_mem _ hi
  obtain ⟨a1, a2⟩ := prod_dz h.cd
  obtain ⟨b1, b2⟩ := prod_dz h.fd
  have d2 := (h.wd _ m1).2
  have d3 := (wl ((frees (isFree fx asked) N).getD i 0)).den_nz
  unfold rowDen bigB
  refine ⟨Int.mul_ne_zero (Int.mul_ne_zero (by omega) (by omega)) (by omega), ?_⟩
  rw [Int.natAbs_mul, Int.natAbs_mul, Nat.pow_add, Nat.pow_add]
  simp only [Int.natAbs_natCast]
  exact Nat.mul_le_mul (Nat.mul_le_mul a1 b1) d2
theorem Given.mul_c {i j : Nat} (hi : i < rank (isFree fx asked) N) (hj : j < np) : MulQ (rowDen N np c fx wl asked i) (bigB N np) (c j) := by
  obtain ⟨m1, _, _⟩ := frees_mem _ hi
  obtain ⟨b1, b2⟩ := prod_dz h.fd
  unfold rowDen bigB
  refine (((MulQ.prod h.cd hj).scale _).scale _).mono ?_
  rw [Nat.pow_add, Nat.pow_add]
  simp only [Int.natAbs_natCast]
  exact Nat.mul_le_mul (Nat.mul_le_mul (Nat.le_refl _) b1) (h.wd _ m1).2
theorem Given.mul_o {i j k : Nat} (hi : i < rank (isFree fx asked) N) (hj : j < np) (hk : k < N) : MulQ (rowDen N np c fx wl asked i) (bigB N np) (c j * outOf fx k) := by
  obtain ⟨m1, _, _⟩ := frees_mem _ hi
  unfold rowDen bigB
  refine (((MulQ.prod h.cd hj).mul (MulQ.prod h.fd hk)).scale _).mono ?_
  rw [Nat.pow_add, Nat.pow_add]
  simp only [Int.natAbs_natCast]
  exact Nat.mul_le_mul (Nat.le_refl _) (h.wd _ m1).2
theorem Given.mul_w {i : Nat} (hi : i < rank (isFree fx asked) N) : MulQ (rowDen N np c fx wl asked i) (bigB N np) (wl ((frees (isFree fx asked) N).getD i 0)) := by
  obtain ⟨m1, _, _⟩ := frees_mem _ hi
  obtain ⟨a1, a2⟩ := prod_dz h.cd
  obtain ⟨b1, b2⟩ := prod_dz h.fd
  unfold rowDen bigB
  refine ((MulQ.den _).scale' _).mono ?_
  rw [Nat.pow_add, Nat.pow_add, Int.natAbs_mul]
  simp only [Int.natAbs_natCast]
  exact Nat.mul_le_mul (Nat.mul_le_mul a1 b1) (h.wd _ m1).1
theorem Given.mul_tab {i n : Nat} (hi : i < rank (isFree fx asked) N) (hn : n ≤ np) (j : Nat) : MulQ (rowDen N np c fx wl asked i) (bigB N np + 4 * n * bigB N np) (tabAt pf pt c fx wl asked N n i j) :=
  tabAt_mul pf pt c fx wl asked h.piped (fun i hi j hj => h.mul_c hi hj) (fun i hi j hj k hk => h.mul_o hi hj hk) (fun i hi => h.mul_w hi) hi n hn j
theorem Given.big : bigB N np + 4 * np * bigB N np + 4 * bigB N np ≤ 10 ^ 200 := by
  have h1 := h.hN
  have h2 := h.hp
  have h3 : bigB N np ≤ 10 ^ 192 := by unfold bigB; exact Nat.pow_le_pow_right (by omega) (by omega)
  have h4 : 4 * np * bigB N np ≤ 36 * bigB N np := Nat.mul_le_mul (by omega) (Nat.le_refl _)
  have h5 : (10 : Nat) ^ 200 = 10 ^ 192 * 100000000 := by rw [show 200 = 192 + 8 by omega, Nat.pow_add]
  omega
theorem Given.short_of {i B : Nat} {q : Rat} (hi : i < rank (isFree fx asked) N) (hq : MulQ (rowDen N np c fx wl asked i) B q) (hB : B ≤ 10 ^ 200) : Short 50000 q := by
  obtain ⟨a1, a2⟩ := h.den_ok hi
  have h1 := h.big
  exact Dz.short (hq.sz a1 hB (by omega)) (by omega)
theorem Given.rank_le : rank (isFree fx asked) N ≤ 6 := Nat.le_trans (Go.Proofs.YtdecgcdkaaiglaaGreat.rank_le _ _) h.hN
/-- the table of texts, all rows short -/
theorem tab_behind {n : Nat} (hn : n ≤ np) {i j : Nat} (hj : rank (isFree fx asked) N < j) : tabAt pf pt c fx wl asked N n i j = 0 := by
  have hput : ∀ (A : Tab) (k o : Nat) (d : Rat), k < N → o < N → A i j = 0 → putTab fx asked (rank (isFree fx asked) N) A k o d i j = 0 := by
    intro A k o d hk ho hA
    unfold putTab
    by_cases hP : isFree fx asked k = true
    · rw [if_pos hP]
      have hrk := rank_lt _ hk hP
      by_cases hQ : isFree fx asked o = true
      · rw [if_pos hQ]
        have hro := rank_lt _ ho hQ
        unfold bumped
        rw [if_neg (by omega), if_neg (by omega)]; exact hA
      · rw [if_neg hQ]
        unfold bumped
        rw [if_neg (by omega), if_neg (by omega)]; exact hA
    · rw [if_neg hP]; exact hA
  induction n with
  | zero => unfold tabAt; rw [if_neg (by omega)]
  | succ n ih =>
    unfold tabAt
    exact hput _ _ _ _ (h.piped.to_lt n (by omega)) (h.piped.from_lt n (by omega)) (hput _ _ _ _ (h.piped.from_lt n (by omega)) (h.piped.to_lt n (by omega)) (ih (by omega)))
theorem Given.elim : Elim (rank (isFree fx asked) N) (tabAt pf pt c fx wl asked N np) 200 0 (tabAt pf pt c fx wl asked N np) := by
  refine ⟨Stage.start (tab_only pf pt c fx wl asked h.piped h.tied) ?_, fun i c hc => tab_behind h (Nat.le_refl _) hc⟩
  have h1 := h.big
  have h2 : bigB N np + 4 * np * bigB N np + (bigB N np + 4 * np * bigB N np) ≤ 10 ^ 200 := by
    have h2 := h.hp
    have h3 : bigB N np ≤ 10 ^ 192 := by unfold bigB; exact Nat.pow_le_pow_right (by omega) (by have := h.hN; omega)
    have h4 : 4 * np * bigB N np ≤ 36 * bigB N np := Nat.mul_le_mul (by omega) (Nat.le_refl _)
    have h5 : (10 : Nat) ^ 200 = 10 ^ 192 * 100000000 := by rw [show 200 = 192 + 8 by omega, Nat.pow_add]
    omega
  obtain ⟨X, h6, h7⟩ := tab_heldZ pf pt c fx wl asked (X := bigB N np + 4 * np * bigB N np) h.piped (fun i hi j hj => h.mul_c hi hj) (fun i hi j hj k hk => h.mul_o hi hj hk) (fun i hi => h.mul_w hi) (fun i hi => by
    obtain ⟨a1, a2⟩ := h.den_ok hi
    exact ⟨a1, by omega⟩) (Nat.le_refl _)
  exact ⟨X, by simp only [Nat.pow_zero, Nat.mul_one]; omega, h7⟩
theorem Given.fits : 200 * 2 ^ rank (isFree fx asked) N ≤ 49999 := by
  have h1 := h.rank_le
  have h2 : 2 ^ rank (isFree fx asked) N ≤ 2 ^ 6 := Nat.pow_le_pow_right (by omega) h1
  omega
end
/-- rows ahead of m, and short ones behind -/
def clip (m : Nat) (R : Nat → Nat → List UInt8) : Nat → Nat → List UInt8 := fun i c => if i < m then R i c else [48]
theorem bumped_at (A : Tab) (i c : Nat) (d : Rat) : bumped A i c d i c = A i c + d := by unfold bumped; rw [if_pos ⟨rfl, rfl⟩]
theorem bumped_off {A : Tab} {i c i' c' : Nat} {d : Rat} (h : ¬ (i' = i ∧ c' = c)) : bumped A i c d i' c' = A i' c' := by unfold bumped; rw [if_neg h]
theorem upd_at (R : Nat → Nat → List UInt8) (i c : Nat) (x : List UInt8) : upd R i c x i c = x := by unfold upd; rw [if_pos ⟨rfl, rfl⟩]
theorem upd_off {R : Nat → Nat → List UInt8} {i c i' c' : Nat} {x : List UInt8} (h : ¬ (i' = i ∧ c' = c)) : upd R i c x i' c' = R i' c' := by unfold upd; rw [if_neg h]
theorem clip_at {m i j : Nat} {R : Nat → Nat → List UInt8} (hi : i < m) : clip m R i j = R i j := by unfold clip; rw [if_pos hi]
/-- a free node's number -/
def frNum (fx : Nat → Option Rat) (asked : Nat → Bool) (k : Nat) : Option Nat := if isFree fx asked k = true then some (rank (isFree fx asked) k) else none
section
variable {N : Nat} {fx : Nat → Option Rat} {asked : Nat → Bool}
theorem putR_txt {A : Tab} {k o i j B b : Nat} {d : Rat} (hk : k < N) (ho : o < N) (hi : i < rank (isFree fx asked) N) {s : Nat → Int} (hA : ∀ i, i < rank (isFree fx asked) N → ∀ j, MulQ (s i) B (A i j)) (hd : ∀ i, i < rank (isFree fx asked) N → MulQ (s i) b d)
    (hdo : ∀ i, i < rank (isFree fx asked) N → MulQ (s i) b (d * outOf fx o)) (hs : ∀ i, i < rank (isFree fx asked) N → ∀ B q, MulQ (s i) B q → B ≤ 10 ^ 200 → Short 50000 q) (hB : B + b + b ≤ 10 ^ 200) (hx : Short 50000 (outOf fx o)) :
    putR (rank (isFree fx asked) N) (clip (rank (isFree fx asked) N) (txt A)) (frNum fx asked k) (frNum fx asked o) (fracText (outOf fx o)) (fracText d) i j = txt (putTab fx asked (rank (isFree fx asked) N) A k o d) i j := by
  unfold frNum putTab
  by_cases hP : isFree fx asked k = true
  · rw [if_pos hP, if_pos hP]
    have hr := rank_lt _ hk hP
    generalize rank (isFree fx asked) N = m at *
    generalize hrr : rank (isFree fx asked) k = r at *
    have sd := hs r hr _ _ (hd r hr) (by omega)
    have s1 := hs r hr _ _ (hA r hr r) (by omega)
    have hb1 : ∀ j, MulQ (s r) (B + b) (bumped A r r d r j) := fun j => bumped_mul (hA r hr) (hd r hr)
    have s2 := hs r hr _ _ (hb1 r) (by omega)
    have e1 : ∀ i j, i < m → upd (clip m (txt A)) r r (plusT (clip m (txt A) r r) (fracText d)) i j = txt (bumped A r r d) i j := by
      intro i j hi
      rw [bumped_at] at s2
      unfold plusT
      rw [clip_at hr, show txt A r r = fracText (A r r) from rfl, op2_txt s1 sd s2]
      by_cases h1 : i = r ∧ j = r
      · rw [h1.1, h1.2, upd_at]; unfold txt; rw [bumped_at]
      · rw [upd_off h1, clip_at hi]; unfold txt; rw [bumped_off h1]
    by_cases hQ : isFree fx asked o = true
    · rw [if_pos hQ, if_pos hQ]
      generalize rank (isFree fx asked) o = q at *
      have s3 := hs r hr _ _ (bumped_mul (i' := r) (c' := q) hb1 (j := q) (hd r hr).neg) (by omega)
      have s4 := hs r hr _ _ (hb1 q) (by omega)
      have eb : bumped (bumped A r r d) r q (-d) r q = bumped A r r d r q - d := by rw [bumped_at]; exact (Rat.sub_eq_add_neg _ _).symm
      rw [eb] at s3
      show upd (upd (clip m (txt A)) r r (plusT (clip m (txt A) r r) (fracText d))) r q (minusT (upd (clip m (txt A)) r r (plusT (clip m (txt A) r r) (fracText d)) r q) (fracText d)) i j = _
      rw [e1 r q hr]
      unfold minusT
      rw [show txt (bumped A r r d) r q = fracText (bumped A r r d r q) from rfl, op2_txt s4 sd s3, ← eb]
      by_cases h1 : i = r ∧ j = q
      · rw [h1.1, h1.2, upd_at]; rfl
      · rw [upd_off h1, e1 i j hi]; unfold txt; rw [bumped_off (A := bumped A r r d) h1]
    · rw [if_neg hQ, if_neg hQ]
      have s3 := hs r hr _ _ (bumped_mul (i' := r) (c' := m) hb1 (j := m) (hdo r hr)) (by omega)
      have s4 := hs r hr _ _ (hb1 m) (by omega)
      have s5 := hs r hr _ _ (hdo r hr) (by omega)
      have eb : bumped (bumped A r r d) r m (d * outOf fx o) r m = bumped A r r d r m + d * outOf fx o := bumped_at _ _ _ _
      rw [eb] at s3
      show upd (upd (clip m (txt A)) r r (plusT (clip m (txt A) r r) (fracText d))) r m (plusT (upd (clip m (txt A)) r r (plusT (clip m (txt A) r r) (fracText d)) r m) (timesT (fracText d) (fracText (outOf fx o)))) i j = _
      rw [e1 r m hr]
      have et : timesT (fracText d) (fracText (outOf fx o)) = fracText (d * outOf fx o) := by unfold timesT; rw [op2_txt sd hx s5]
      rw [et]
      have e2 : plusT (txt (bumped A r r d) r m) (fracText (d * outOf fx o)) = fracText (bumped (bumped A r r d) r m (d * outOf fx o) r m) := by
        rw [eb]; unfold plusT
        rw [show txt (bumped A r r d) r m = fracText (bumped A r r d r m) from rfl, op2_txt s4 s5 s3]
      rw [e2]
      by_cases h1 : i = r ∧ j = m
      · rw [h1.1, h1.2, upd_at]; rfl
      · rw [upd_off h1, e1 i j hi]; unfold txt; rw [bumped_off (A := bumped A r r d) h1]
  · rw [if_neg hP, if_neg hP]
    show clip _ (txt A) i j = _
    unfold clip
    rw [if_pos hi]
end
section
variable {N np : Nat} {pf pt : Nat → Nat} {c : Nat → Rat} {fx : Nat → Option Rat} {wl : Nat → Rat} {asked : Nat → Bool}
/-- the table behind n pipes and one end of the next one -/
def halfAt (pf pt : Nat → Nat) (c : Nat → Rat) (fx : Nat → Option Rat) (wl : Nat → Rat) (asked : Nat → Bool) (N n : Nat) : Tab := putTab fx asked (rank (isFree fx asked) N) (tabAt pf pt c fx wl asked N n) (pf n) (pt n) (c n)
variable (h : Given N np pf pt c fx wl asked)
include h
theorem Given.mul_half {i n : Nat} (hi : i < rank (isFree fx asked) N) (hn : n < np) (j : Nat) : MulQ (rowDen N np c fx wl asked i) (bigB N np + 4 * n * bigB N np + bigB N np + bigB N np) (halfAt pf pt c fx wl asked N n i j) :=
  putTab_mul fx asked (h.mul_tab hi (by omega)) (h.mul_c hi hn) (h.mul_o hi hn (h.piped.to_lt n hn)) j
theorem Given.le_big {n : Nat} (hn : n < np) : bigB N np + 4 * n * bigB N np + bigB N np + bigB N np + bigB N np + bigB N np ≤ 10 ^ 200 := by
  have h1 := h.big
  have h2 : 4 * n * bigB N np ≤ 4 * np * bigB N np := Nat.mul_le_mul (by omega) (Nat.le_refl _)
  omega
theorem Given.short_out {k : Nat} (hk : k < N) : Short 50000 (outOf fx k) := Dz.short (h.fd k hk) (by omega)
theorem Given.put1 {n i j : Nat} (hn : n < np) (hi : i < rank (isFree fx asked) N) :
    putR (rank (isFree fx asked) N) (clip (rank (isFree fx asked) N) (txt (tabAt pf pt c fx wl asked N n))) (frNum fx asked (pf n)) (frNum fx asked (pt n)) (fracText (outOf fx (pt n))) (fracText (c n)) i j = txt (halfAt pf pt c fx wl asked N n) i j :=
  putR_txt (s := rowDen N np c fx wl asked) (h.piped.from_lt n hn) (h.piped.to_lt n hn) hi (fun i hi => h.mul_tab hi (by omega)) (fun i hi => h.mul_c hi hn) (fun i hi => h.mul_o hi hn (h.piped.to_lt n hn)) (fun i hi B q hq hB => h.short_of hi hq hB) (by have := h.le_big hn; omega) (h.short_out (h.piped.to_lt n hn))
theorem Given.put2 {n i j : Nat} (hn : n < np) (hi : i < rank (isFree fx asked) N) :
    putR (rank (isFree fx asked) N) (clip (rank (isFree fx asked) N) (txt (halfAt pf pt c fx wl asked N n))) (frNum fx asked (pt n)) (frNum fx asked (pf n)) (fracText (outOf fx (pf n))) (fracText (c n)) i j = txt (tabAt pf pt c fx wl asked N (n + 1)) i j :=
  putR_txt (s := rowDen N np c fx wl asked) (h.piped.to_lt n hn) (h.piped.from_lt n hn) hi (fun i hi => h.mul_half hi hn) (fun i hi => h.mul_c hi hn) (fun i hi => h.mul_o hi hn (h.piped.from_lt n hn)) (fun i hi B q hq hB => h.short_of hi hq hB) (by have := h.le_big hn; omega) (h.short_out (h.piped.from_lt n hn))
theorem Given.tab_smallS {n : Nat} (hn : n ≤ np) (i j : Nat) : SmallS (clip (rank (isFree fx asked) N) (txt (tabAt pf pt c fx wl asked N n)) i j) := by
  unfold clip
  split
  · next hi =>
    refine txt_small (h.short_of hi (h.mul_tab hi hn j) ?_)
    have h1 := h.big
    have h2 : 4 * n * bigB N np ≤ 4 * np * bigB N np := Nat.mul_le_mul (by omega) (Nat.le_refl _)
    omega
  · unfold SmallS; simp
theorem Given.half_smallS {n : Nat} (hn : n < np) (i j : Nat) : SmallS (clip (rank (isFree fx asked) N) (txt (halfAt pf pt c fx wl asked N n)) i j) := by
  unfold clip
  split
  · next hi => exact txt_small (h.short_of hi (h.mul_half hi hn j) (by have := h.le_big hn; omega))
  · unfold SmallS; simp
end
end Go.Proofs.YtdecgcdkaaiglaaGreat
namespace Go.Proofs.YtdecgcdkaaiglaaGreat
open Go.RowKit Go.Deep
attribute [local go_sem ↓] Go.wp_at_zero Go.wp_at_succ
/-- N values, told by a function. -/
def row {α : Type} (N : Nat) (f : Nat → α) : List α := (List.range N).map f
theorem row_length {α : Type} (N : Nat) (f : Nat → α) : (row N f).length = N := by simp [row]
theorem row_get {α : Type} {N : Nat} {f : Nat → α} {k : Nat} (hk : k < N) : (row N f)[k]? = some (f k) := by
  unfold row
  rw [List.getElem?_map, List.getElem?_range hk]; rfl
theorem row_congr {α : Type} {N : Nat} {f g : Nat → α} (h : ∀ k, k < N → f k = g k) : row N f = row N g := by
  unfold row
  exact List.map_congr_left fun k hk => h k (List.mem_range.1 hk)
theorem row_set {α : Type} {N : Nat} {f g : Nat → α} {k : Nat} {v : α} (hv : g k = v) (h : ∀ j, j < N → j ≠ k → g j = f j) : (row N f).set k v = row N g := by
  apply List.ext_getElem?
  intro j
  rw [List.getElem?_set]
  rcases Nat.lt_or_ge j N with hj | hj
  · rw [row_length]
    by_cases hk : k = j
    · subst hk; rw [if_pos rfl, if_pos hj, row_get hj, hv]
    · rw [if_neg hk, row_get hj, row_get hj, h j hj (fun e => hk e.symm)]
  · have h1 : (row N g)[j]? = none := List.getElem?_eq_none (by rw [row_length]; exact hj)
    have h2 : (row N f)[j]? = none := List.getElem?_eq_none (by rw [row_length]; exact hj)
    rw [h1, h2, row_length]
    split
    · rw [if_neg (by omega)]
    · rfl
/-- Block g is N values of type t, told by f. -/
def RowIs (w : World) (g : Nat) (t : TypeId) (N : Nat) (f : Nat → Value) : Prop := Blk w g t (row N f).toArray
section
variable {w w' : World} {g N : Nat} {t : TypeId} {f : Nat → Value}
theorem RowIs.lt (h : RowIs w g t N f) : g < w.heap.size := Blk.lt h
theorem RowIs.frozen (h : RowIs w g t N f) (j : Nat) : w.frozen? ⟨g, j, none⟩ = false := Blk.frozen h j
theorem RowIs.below (h : RowIs w g t N f) (hb : Below w.heap.size w w') : RowIs w' g t N f := Blk.below h hb h.lt
theorem RowIs.far (h : RowIs w g t N f) {p : Addr} (hp : g ≠ p.block) (u : Value) : RowIs (w.setCell p u) g t N f := Blk.far h hp u
theorem RowIs.cell (h : RowIs w g t N f) {k : Nat} (hk : k < N) : w.cell? ⟨g, k, none⟩ = some (f k) := by
  unfold RowIs at h
  rw [h.cell, List.getElem?_toArray, row_get hk]
theorem RowIs.set_ (h : RowIs w g t N f) {k : Nat} {v : Value} {f' : Nat → Value} (hv : f' k = v) (hf : ∀ j, j < N → j ≠ k → f' j = f j) : RowIs (w.setCell ⟨g, k, none⟩ v) g t N f' := by
  unfold RowIs at h ⊢
  have := h.set_ k v
  rw [List.setIfInBounds_toArray, row_set hv hf] at this
  exact this
theorem RowIs.grown {r : Option Nat} (h : RowIs w g t N f) (hb : w.grownBy w' r) (hg : some g ≠ r) : RowIs w' g t N f := Blk.grown h hb hg
theorem RowIs.congr (h : RowIs w g t N f) {f' : Nat → Value} (e : ∀ k, k < N → f k = f' k) : RowIs w g t N f' := by
  unfold RowIs at h ⊢
  rw [← row_congr e]; exact h
end
theorem RowsIs.congr {w : World} {g M : Nat} {R R' : Nat → Nat → List UInt8} (h : RowsIs w g M R) (e : ∀ i c, i < M → c < 25 → R i c = R' i c) : RowsIs w g M R' := by
  unfold RowsIs at h ⊢
  have e2 : tcells M R = tcells M R' := by
    unfold tcells
    refine List.map_congr_left fun j hj => ?_
    have hj := List.mem_range.1 hj
    unfold tcell
    rw [e _ _ (by omega) (by omega)]
  rw [← e2]; exact h
theorem rep_row (n : Nat) (v : Value) : List.replicate n v = row n fun _ => v := by
  apply List.ext_getElem?
  intro j
  rcases Nat.lt_or_ge j n with h | h
  · rw [row_get h, List.getElem?_replicate, if_pos h]
  · rw [List.getElem?_replicate, if_neg (by omega), List.getElem?_eq_none (by rw [row_length]; exact h)]
theorem infoText : (Tryz.prog.info? 28).map (fun i => (i.zero, i.size, i.bytes)) = some (some (.string ⟨#[]⟩), 1, 16) := by kernel_rfl
theorem makeFrac (k : IntKind) (n : Nat) (hn : n ≤ 1073741824) (w : World) :
    (Instr.makeSlice 27 (.int k (n : Int)) (.int k (n : Int))).run Tryz.prog w = .ok (.slice (some ⟨w.heap.size, 0, none⟩) n n) (w.alloc (.cells (row n (fun _ => str [])).toArray 28)) := by
  rw [run_make_row' 27 28 (.string ⟨#[]⟩) 16 Tryz.underlying27 infoText rfl k k n (by omega) (by omega) w]
  congr 3
  apply Array.ext'
  rw [toList_madeCells_one]
  exact rep_row _ _
theorem makeInt (k : IntKind) (n : Nat) (hn : n ≤ 1073741824) (w : World) :
    (Instr.makeSlice 29 (.int k (n : Int)) (.int k (n : Int))).run Tryz.prog w = .ok (.slice (some ⟨w.heap.size, 0, none⟩) n n) (w.alloc (.cells (row n (fun _ => .int .i64 0)).toArray 3)) := by
  rw [run_make_row' 29 3 (.int .i64 0) 8 Tryz.underlying29 info64 rfl k k n (by omega) (by omega) w]
  congr 3
  apply Array.ext'
  rw [toList_madeCells_one]
  exact rep_row _ _
theorem infoRow : (Tryz.prog.info? 106).map (fun i => (i.zero, i.size, i.bytes)) = some (some (.agg (Array.replicate 25 (.string ⟨#[]⟩))), 25, 400) := by kernel_rfl
theorem madeCells_same {z : Array Value} {v : Value} (n : Nat) (h0 : 0 < z.size) (h : ∀ i (hi : i < z.size), z[i] = v) : (madeCells z n).toList = List.replicate n v := by
  apply List.ext_getElem?
  intro j
  unfold madeCells
  rcases Nat.lt_or_ge j n with hj | hj
  · have h1 : j % z.size < z.size := Nat.mod_lt _ h0
    simp [hj, List.getElem?_replicate, h _ h1, getElem!_pos, h1]
  · simp [hj, List.getElem?_replicate]
theorem tcells_rep (n : Nat) : tcells n (fun _ _ => []) = List.replicate (n * 25) (.string ⟨#[]⟩) := by
  rw [rep_row]; rfl
theorem rowZero : (Value.agg (Array.replicate 25 (.string ⟨#[]⟩))).cells = Array.replicate 25 (.string ⟨#[]⟩) := rfl
theorem makeRows (k : IntKind) (n : Nat) (hn : n ≤ 1000) (w : World) :
    (Instr.makeSlice 105 (.int k (n : Int)) (.int k (n : Int))).run Tryz.prog w = .ok (.slice (some ⟨w.heap.size, 0, none⟩) n n) (w.alloc (.cells (tcells n (fun _ _ => [])).toArray 106)) := by
  obtain ⟨i, hi, hzz⟩ := Option.map_eq_some_iff.1 infoRow
  simp only [Prod.mk.injEq] at hzz
  obtain ⟨hz, hs, hb⟩ := hzz
  rw [run_make (P := Tryz.prog) w 105 106 i _ Tryz.underlying105 hi hz k k n n (by omega) (by omega) (by rw [hb]; omega) (by omega)]
  have e : madeCells (Value.agg (Array.replicate 25 (.string ⟨#[]⟩))).cells ((n : Int).toNat * i.size) = (tcells n (fun _ _ => [])).toArray := by
    apply Array.ext'
    rw [hs, rowZero, madeCells_same (v := .string ⟨#[]⟩) _ (by rw [Array.size_replicate]; omega) (fun i hi => by rw [Array.getElem_replicate]), tcells_rep]
    rfl
  rw [e]
  rfl
def outF (fx : Nat → Option Rat) (k : Nat) : Nat → Value := fun j => str (if j < k then fracText (outOf fx j) else [])
def atF (fx : Nat → Option Rat) (asked : Nat → Bool) (k : Nat) : Nat → Value := fun j => .int .i64 (if j < k then numI (frNum fx asked j) else 0)
def frInts (fx : Nat → Option Rat) (asked : Nat → Bool) (k : Nat) : List Int := (frees (isFree fx asked) k).map fun (j : Nat) => (j : Int)
/-- the nodes' loop -/
def HeaM (N : Nat) (fx : Nat → Option Rat) (asked : Nat → Bool) (gO bO gA bA bF : Nat) (w : World) (cs : Array Value) (iv : Value) (wr : World) : Prop :=
  ∃ (k : Nat) (fv : Value), k ≤ N ∧ iv = .int .i64 k ∧ Hid (Blk wr w.heap.size 26 cs) ∧ Hid (RowIs wr gO 28 N (outF fx k)) ∧ Hid (Blk wr bO 27 #[.slice (some ⟨gO, 0, none⟩) N N]) ∧
    Hid (RowIs wr gA 3 N (atF fx asked k)) ∧ Hid (Blk wr bA 29 #[.slice (some ⟨gA, 0, none⟩) N N]) ∧ Hid (Blk wr bF 29 #[fv]) ∧
    Hid (wr.ownsRow (bF + 1) 3 1 fv (rank (isFree fx asked) k) (ints (frInts fx asked k))) ∧ Hid (Below w.heap.size w wr)
theorem own_far {w : World} {base : Nat} {e : TypeId} {size : Nat} {v : Value} {n : Nat} {xs : List Value} (h : w.ownsRow base e size v n xs) {p : Addr} (hp : p.block < base) (u : Value) : (w.setCell p u).ownsRow base e size v n xs := by
  refine ⟨h.1, ?_⟩
  rcases h.2 with h0 | ⟨g, cap, cur, hv, hg, hh, r⟩
  · exact .inl h0
  · exact .inr ⟨g, cap, cur, hv, hg, (Below.heap_setCell w p u g (by omega)).trans hh, r⟩
theorem own_slice {w : World} {base : Nat} {e : TypeId} {size : Nat} {v : Value} {n : Nat} {xs : List Value} (h : w.ownsRow base e size v n xs) : ∃ A c, v = .slice A n c := by
  rcases h.2 with ⟨h0, h1⟩ | ⟨g, cap, cur, hv, _⟩
  · exact ⟨none, 0, by rw [h0, h1]⟩
  · exact ⟨_, _, hv⟩
theorem free_not {fx : Nat → Option Rat} {asked : Nat → Bool} {k : Nat} (h : ¬ ((fx k).isSome = false ∧ asked k = true)) : isFree fx asked k = false := by
  unfold isFree
  cases hf : (fx k) with
  | some v => rfl
  | none =>
    cases ha : asked k with
    | false => rfl
    | true => exact absurd ⟨by rw [hf]; rfl, ha⟩ h
theorem free_is {fx : Nat → Option Rat} {asked : Nat → Bool} {k : Nat} (h1 : (fx k).isSome = false) (h2 : asked k = true) : isFree fx asked k = true := by
  unfold isFree
  cases hf : (fx k) with
  | some v => rw [hf] at h1; cases h1
  | none => rw [h2]; rfl
theorem fr_none {fx : Nat → Option Rat} {asked : Nat → Bool} {k : Nat} (h : isFree fx asked k = false) : frNum fx asked k = none := by unfold frNum; rw [h]; rfl
theorem fr_some {fx : Nat → Option Rat} {asked : Nat → Bool} {k : Nat} (h : isFree fx asked k = true) : frNum fx asked k = some (rank (isFree fx asked) k) := by unfold frNum; rw [if_pos h]
theorem minus_zero {q : Rat} (h : Short 50000 q) : minusT [48] (fracText q) = fracText (-q) := by
  have h0 : Short 50000 (0 : Rat) := Dz.short (Dz.zero 1) (by omega)
  have h1 : Short 50000 (0 - q) := by rw [show (0 : Rat) - q = -q by grind]; exact ⟨by rw [Rat.neg_num, Int.natAbs_neg]; exact h.1, by rw [Rat.neg_den]; exact h.2⟩
  unfold minusT
  rw [show ([48] : List UInt8) = fracText 0 from (fracText_zero_iff.2 rfl).symm, op2_txt h0 h h1, show (0 : Rat) - q = -q by grind]
theorem frInts_get {fx : Nat → Option Rat} {asked : Nat → Bool} {N i : Nat} (hi : i < rank (isFree fx asked) N) : (ints (frInts fx asked N))[i]? = some (.int .i64 (((frees (isFree fx asked) N).getD i 0 : Nat) : Int)) := by
  have h : i < (frees (isFree fx asked) N).length := hi
  unfold ints frInts
  simp [List.getElem?_map, List.getElem?_eq_getElem h, List.getD]
/-- rows at first: those ahead of i are laid -/
def startR (m : Nat) (v : Nat → List UInt8) (i : Nat) : Nat → Nat → List UInt8 := fun i' c => if i' < i then (if c = m then v i' else [48]) else []
/-- row i is being filled -/
def fillR (m : Nat) (v : Nat → List UInt8) (i k : Nat) : Nat → Nat → List UInt8 := fun i' c => if i' = i ∧ c < k then [48] else startR m v i i' c
theorem fillR_zero (m : Nat) (v : Nat → List UInt8) (i : Nat) : fillR m v i 0 = startR m v i := by
  funext i' c
  unfold fillR
  rw [if_neg (by omega)]
theorem fillR_upd (m : Nat) (v : Nat → List UInt8) (i k : Nat) : upd (fillR m v i k) i k [48] = fillR m v i (k + 1) := by
  funext i' c
  unfold upd fillR
  by_cases h : i' = i ∧ c = k
  · rw [if_pos h, if_pos (by omega)]
  · rw [if_neg h]
    by_cases h2 : i' = i ∧ c < k
    · rw [if_pos h2, if_pos (by omega)]
    · rw [if_neg h2, if_neg (by omega)]
theorem startR_next {m i : Nat} {v : Nat → List UInt8} {x y : List UInt8} (hy : y = v i) : ∀ i' c, i' < m → c < 25 → upd (upd (fillR m v i 25) i m x) i m y i' c = startR m v (i + 1) i' c := by
  intro i' c _ hc
  unfold upd fillR startR
  by_cases h : i' = i
  · subst h
    by_cases h2 : c = m
    · rw [if_pos ⟨rfl, h2⟩, if_pos (by omega), if_pos h2, hy]
    · rw [if_neg (fun h => h2 h.2), if_neg (fun h => h2 h.2), if_pos ⟨rfl, hc⟩, if_pos (by omega), if_neg h2]
  · rw [if_neg (fun h2 => h h2.1), if_neg (fun h2 => h h2.1), if_neg (fun h2 => h h2.1)]
    by_cases h3 : i' < i
    · rw [if_pos h3, if_pos (show i' < i + 1 by omega)]
    · rw [if_neg h3, if_neg (show ¬ i' < i + 1 by omega)]
theorem put_row (N m gA gR gO bA bR bF bO k o cF : Nat) (F : Option Addr) (rk ro : Option Nat) (c x : List UInt8) (R : Nat → Nat → List UInt8) (w : World) (hA : w.cell? ⟨bA, 0, none⟩ = some (.slice (some ⟨gA, 0, none⟩) N N)) (hk : k < N) (ho : o < N) (hN : N ≤ 1000)
    (hak : w.cell? ⟨gA, k, none⟩ = some (.int .i64 (numI rk))) (hao : w.cell? ⟨gA, o, none⟩ = some (.int .i64 (numI ro))) (hB : w.cell? ⟨bR, 0, none⟩ = some (.slice (some ⟨gR, 0, none⟩) m m)) (hr : ∀ r, rk = some r → r < m) (hq : ∀ r, ro = some r → r < m) (hF : w.cell? ⟨bF, 0, none⟩ = some (.slice F m cF)) (hO : w.cell? ⟨bO, 0, none⟩ = some (.slice (some ⟨gO, 0, none⟩) N N)) (hxo : w.cell? ⟨gO, o, none⟩ = some (str x)) (hx : SmallS x) (hm : m ≤ 24) (hR : RowsIs w gR m R)
    (hs : ∀ i j, SmallS (R i j)) (hc : SmallS c) (d1 : bA ≠ gR) (d2 : gA ≠ gR) (d3 : bR ≠ gR) (d4 : bF ≠ gR) (d5 : bO ≠ gR) (d6 : gO ≠ gR) :
    Calls Tryz.prog 80 #[.int .i64 k, .int .i64 o, str c, .pointer (some ⟨bA, 0, none⟩), .pointer (some ⟨bR, 0, none⟩), .pointer (some ⟨bF, 0, none⟩), .pointer (some ⟨bO, 0, none⟩)] w (PutPost gR m (putR m R rk ro x c) w) := by
  cases rk with
  | none => exact put_none N m gA gR bA bR bF bO k o c R w hA hk hN hak hR
  | some r =>
    cases ro with
    | none => exact put_fixed N m gA gR gO bA bR bF bO k o r cF F c x R w hA hk ho hN hak hao hB (hr r rfl) hF hO hxo hx hm hR hs hc d1 d2 d3 d4 d5 d6
    | some q => exact put_free N m gA gR bA bR bF bO k o r q c R w hA hk ho hN hak hao hB (hr r rfl) (hq q rfl) hm hR hs hc d1 d2 d3
theorem fr_lt {fx : Nat → Option Rat} {asked : Nat → Bool} {N k r : Nat} (hk : k < N) (h : frNum fx asked k = some r) : r < rank (isFree fx asked) N := by
  unfold frNum at h
  by_cases hP : isFree fx asked k = true
  · rw [if_pos hP] at h
    injection h with h
    rw [← h]
    exact rank_lt _ hk hP
  · rw [if_neg hP] at h; cases h
theorem Elim.answer_dz {m E B : Nat} {A0 A : Tab} (h : Elim m A0 E m A) (hle : E * 2 ^ m ≤ B) {i : Nat} (hi : i < m) : Dz B (A i m / A i i) := by
  obtain ⟨t, h1, h2, h3⟩ := h.1.2.2.1.diag hi (h.1.2.1 i hi).1
  have hp : (10 : Nat) ^ (E * 2 ^ m) ≤ 10 ^ B := Nat.pow_le_pow_right (by omega) hle
  exact h3.sz h1 hp (Nat.le_trans h2 hp)
/-- heads, the unknowns ahead of i told -/
def outG (fx : Nat → Option Rat) (asked : Nat → Bool) (x : Nat → Rat) (i : Nat) : Nat → Value := fun j => str (if isFree fx asked j = true ∧ rank (isFree fx asked) j < i then fracText (x (rank (isFree fx asked) j)) else fracText (outOf fx j))
theorem outG_zero {fx : Nat → Option Rat} {asked : Nat → Bool} {x : Nat → Rat} {N : Nat} : ∀ j, j < N → outF fx N j = outG fx asked x 0 j := by
  intro j hj
  unfold outF outG
  rw [if_pos hj, if_neg (by omega)]
theorem outG_end {fx : Nat → Option Rat} {asked : Nat → Bool} {x : Nat → Rat} {N : Nat} : ∀ j, j < N → outG fx asked x (rank (isFree fx asked) N) j = str (fracText (extd fx asked x j)) := by
  intro j hj
  unfold outG
  by_cases h : isFree fx asked j = true
  · rw [if_pos ⟨h, rank_lt _ hj h⟩, ext_free _ _ h]
  · rw [if_neg (fun h2 => h h2.1), ext_out _ _ h]
theorem outG_at {fx : Nat → Option Rat} {asked : Nat → Bool} {x : Nat → Rat} {N i : Nat} (hi : i < rank (isFree fx asked) N) : outG fx asked x (i + 1) ((frees (isFree fx asked) N).getD i 0) = str (fracText (x i)) := by
  obtain ⟨m1, m2, m3⟩ := frees_mem _ hi
  unfold outG
  rw [if_pos ⟨m2, by omega⟩, m3]
theorem outG_off {fx : Nat → Option Rat} {asked : Nat → Bool} {x : Nat → Rat} {N i : Nat} (hi : i < rank (isFree fx asked) N) : ∀ j, j < N → j ≠ (frees (isFree fx asked) N).getD i 0 → outG fx asked x (i + 1) j = outG fx asked x i j := by
  intro j hj hne
  unfold outG
  congr 1
  by_cases h : isFree fx asked j = true
  · have h2 : rank (isFree fx asked) j ≠ i := by
      intro e
      have := frees_get _ hj h
      rw [e] at this
      exact hne this.symm
    by_cases h3 : rank (isFree fx asked) j < i
    · rw [if_pos ⟨h, by omega⟩, if_pos ⟨h, h3⟩]
    · rw [if_neg (fun h4 => by omega), if_neg (fun h4 => h3 h4.2)]
  · rw [if_neg (fun h2 => h h2.1), if_neg (fun h2 => h h2.1)]
/-- the answers' loop -/
def HeaO (fx : Nat → Option Rat) (asked : Nat → Bool) (x : Nat → Rat) (N m gO bO bF B8 : Nat) (Af A8 : Option Addr) (cf c8 : Nat) (w : World) (iv : Value) (wr : World) : Prop :=
  ∃ i : Nat, i ≤ m ∧ iv = .int .i64 i ∧ Hid (RowIs wr gO 28 N (outG fx asked x i)) ∧ Hid (Blk wr bO 27 #[.slice (some ⟨gO, 0, none⟩) N N]) ∧ Hid (Blk wr bF 29 #[.slice Af m cf]) ∧
    Hid (wr.ownsRow (bF + 1) 3 1 (.slice Af m cf) m (ints (frInts fx asked N))) ∧ Hid (wr.ownsRow B8 28 1 (.slice A8 m c8) m ((List.range m).map fun i => str (fracText (x i)))) ∧ Hid (Below w.heap.size w wr)
/-- the pipes' loop -/
def HeaP (n : Net) (c : Nat → Rat) (fx : Nat → Option Rat) (wl : Nat → Rat) (asked : Nat → Bool) (N m : Nat) (WF : World) (iv : Value) (wr : World) : Prop :=
  ∃ i : Nat, i ≤ n.pipes.length ∧ iv = .int .i64 i ∧ Hid (RowsIs wr WF.heap.size m (txt (tabAt n.pf n.pt c fx wl asked N i))) ∧ Hid (Blk wr (WF.heap.size + 1) 105 #[.slice (some ⟨WF.heap.size, 0, none⟩) m m]) ∧ Hid (Below WF.heap.size WF wr)
/-- the rows' loop -/
def HeaR (m : Nat) (v : Nat → List UInt8) (WF : World) (iv : Value) (wr : World) : Prop :=
  ∃ i : Nat, i ≤ m ∧ iv = .int .i64 i ∧ Hid (RowsIs wr WF.heap.size m (startR m v i)) ∧ Hid (Blk wr (WF.heap.size + 1) 105 #[.slice (some ⟨WF.heap.size, 0, none⟩) m m]) ∧ Hid (Below WF.heap.size WF wr)
/-- a row's loop -/
def HeaC (m : Nat) (v : Nat → List UInt8) (i : Nat) (WF : World) (cv : Value) (wr : World) : Prop :=
  ∃ k : Nat, k ≤ 25 ∧ cv = .int .i64 k ∧ Hid (RowsIs wr WF.heap.size m (fillR m v i k)) ∧ Hid (Blk wr (WF.heap.size + 1) 105 #[.slice (some ⟨WF.heap.size, 0, none⟩) m m]) ∧ Hid (Below WF.heap.size WF wr)
def HeadsPost (n : Net) (c : Nat → Rat) (fx : Nat → Option Rat) (wl : Nat → Rat) (asked : Nat → Bool) (w : World) (e : Ending) (w' : World) : Prop :=
  ∃ (A : Option Addr) (cap : Nat) (h : Nat → Rat), e = .returned (.slice A n.nodes.length cap) ∧ cap = n.nodes.length ∧ IsHeads n.nodes.length n.pipes.length n.pf n.pt c fx wl asked h ∧ (∀ k, k < n.nodes.length → Dz 13000 (h k)) ∧
    Reads w' w'.heap.size 1 A n.nodes.length (row n.nodes.length fun k => str (fracText (h k))) ∧ Below w.heap.size w w'
set_option maxRecDepth 100000 in
set_option maxHeartbeats 16000000 in
theorem water_heads (vn vc vh vw vb : Value) (n : Net) (cs : List (List UInt8)) (hl wll : List Level) (bs : List Bool) (c : Nat → Rat) (fx : Nat → Option Rat) (wl : Nat → Rat) (w : World) (hn : NetIs w vn n) (hc : NodesIs w vc cs) (hh : LevelsIs w vh hl) (hw : LevelsIs w vw wll) (hb : BoolsIs w vb bs)
    (hcl : cs.length = n.pipes.length) (hct : ∀ i (h : i < cs.length), cs[i] = fracText (c i)) (hfx : ∀ k, k < n.nodes.length → levelText hl (k : Int) = fracText (outOf fx k) ∧ (hl.find? (fun v => v.node == (k : Int))).isSome = (fx k).isSome)
    (hwl : ∀ k, k < n.nodes.length → levelText wll (k : Int) = fracText (wl k)) (hbl : bs.length = n.nodes.length) (he : n.Ends) (hg : Given n.nodes.length n.pipes.length n.pf n.pt c fx wl (fun k => bs.getD k false)) :
    Calls Tryz.prog 36 #[vn, vc, vh, vw, vb] w (HeadsPost n c fx wl (fun k => bs.getD k false) w) := by
  obtain ⟨A0, k0, c0, A1, k1, c1, A2, k2, c2, A3, k3, c3, rfl, hn0, hn1, hn2, hn3⟩ := hn
  have hk0 : k0 = n.nodes.length := by obtain ⟨A', c', e, _⟩ := hn0; injection e
  have hk1 : k1 = n.pipes.length := by obtain ⟨A', c', e, _⟩ := hn1; injection e
  obtain ⟨Ab, cb, rfl, hb1, hb2, hbr⟩ := hb
  rw [hbl] at hb1 hbr
  rw [hbl]
  rw [← hk0] at hb1 hbr
  rw [← hk0]
  obtain ⟨Ac, cc, rfl, hc1, hc2, hc3, hcr, hcs⟩ := hc
  rw [hcl, ← hk1] at hc1 hcr
  rw [hcl, ← hk1]
  obtain ⟨asked, hask⟩ : ∃ a, a = fun k => bs.getD k false := ⟨_, rfl⟩
  rw [← hask] at hg ⊢
  have HASK := hide hask
  have HG := hide hg
  have hgk := hg
  rw [← hk0, ← hk1] at hgk
  have HGK := hide hgk
  clear hgk
  have hN6 : k0 ≤ 6 := by have := hg.hN; omega
  have hP9 : k1 ≤ 9 := by have := hg.hp; omega
  have hlv := fun k (h : k < n.nodes.length) w' (hB : Below w.heap.size w w') => water_level vh hl (k : Int) w' (hh.below hB)
  have hlw := fun k (h : k < n.nodes.length) w' (hB : Below w.heap.size w w') => water_level vw wll (k : Int) w' (hw.below hB)
  unfold RetLT at hlv hlw
  have hlv2 := fun k (h : k < n.nodes.length) w' (hB : Below w.heap.size w w') => (by have := hlv k h w' hB; rw [(hfx k h).1, (hfx k h).2] at this; exact this : Calls Tryz.prog 79 #[vh, .int .i64 k] w' (fun e w'' => e = .returned (.tuple #[str (fracText (outOf fx k)), .bool (fx k).isSome]) ∧ Below w'.heap.size w' w''))
  have hlw2 := fun k (h : k < n.nodes.length) w' (hB : Below w.heap.size w w') => (by have := hlw k h w' hB; rw [hwl k h] at this; exact this : Calls Tryz.prog 79 #[vw, .int .i64 k] w' (fun e w'' => e = .returned (.tuple #[str (fracText (wl k)), .bool (wll.find? (fun v => v.node == (k : Int))).isSome]) ∧ Below w'.heap.size w' w''))
  have HLV := hide hlv2
  have HLW := hide hlw2
  clear hlv hlw hlv2 hlw2 hfx hwl hh hw hask hg
  have HN1 := hide hn1
  have HK0 := hide hk0
  have HK1 := hide hk1
  have HEN := hide he
  have HBR := hide hbr
  have HCR := hide hcr
  have HCT := hide hct
  have HCL := hide hcl
  have HBL := hide hbl
  clear hn0 hn1 hn2 hn3 hk0 hk1 he hbr hcr hct hcl hcs hb2 hc2 hbl
  obtain ⟨i0, hi0, hz0, hz1, hz2⟩ := info_parts info64
  have hmk1 := fun w => makeFrac .i64 k0 (by omega) w
  have hmk2 := fun w => makeInt .i64 k0 (by omega) w
  have hx0 := Blk.new w 26 #[.slice A0 k0 c0, .slice A1 k1 c1, .slice A2 k2 c2, .slice A3 k3 c3]
  have r0 := hx0.cell 0
  have r1 := hx0.cell 1
  have rL := hx0.lt
  simp at r0 r1
  go_enter Tryz.func36, Tryz.ntmps36
  go_wp2_with fail
  clear hmk1 hmk2 r0 r1 rL hx0
  have hK : Blk ((((((w.alloc (.cells #[.slice A0 k0 c0, .slice A1 k1 c1, .slice A2 k2 c2, .slice A3 k3 c3] 26)).alloc (.cells (row k0 fun _ => str []).toArray 28)).alloc (.cells #[.slice (some ⟨w.heap.size + 1, 0, none⟩) k0 k0] 27)).alloc (.cells (row k0 fun _ => .int .i64 0).toArray 3)).alloc (.cells #[.slice (some ⟨w.heap.size + 1 + 1 + 1, 0, none⟩) k0 k0] 29)).alloc (.cells #[.slice none 0 0] 29)) w.heap.size 26 #[.slice A0 k0 c0, .slice A1 k1 c1, .slice A2 k2 c2, .slice A3 k3 c3] := (((((Blk.new w _ _).alloc _).alloc _).alloc _).alloc _).alloc _
  have hRO : RowIs ((((((w.alloc (.cells #[.slice A0 k0 c0, .slice A1 k1 c1, .slice A2 k2 c2, .slice A3 k3 c3] 26)).alloc (.cells (row k0 fun _ => str []).toArray 28)).alloc (.cells #[.slice (some ⟨w.heap.size + 1, 0, none⟩) k0 k0] 27)).alloc (.cells (row k0 fun _ => .int .i64 0).toArray 3)).alloc (.cells #[.slice (some ⟨w.heap.size + 1 + 1 + 1, 0, none⟩) k0 k0] 29)).alloc (.cells #[.slice none 0 0] 29)) (w.heap.size + 1) 28 k0 (outF fx 0) := by
    have h := ((((Blk.new (w.alloc (.cells #[.slice A0 k0 c0, .slice A1 k1 c1, .slice A2 k2 c2, .slice A3 k3 c3] 26)) 28 (row k0 fun _ => str []).toArray).alloc (.cells #[.slice (some ⟨w.heap.size + 1, 0, none⟩) k0 k0] 27)).alloc (.cells (row k0 fun _ => .int .i64 0).toArray 3)).alloc (.cells #[.slice (some ⟨w.heap.size + 1 + 1 + 1, 0, none⟩) k0 k0] 29)).alloc (.cells #[.slice none 0 0] 29)
    simp only [World.size_alloc] at h
    exact RowIs.congr (f := fun _ => str []) h (fun k _ => by unfold outF; rw [if_neg (by omega)])
  have hBO : Blk ((((((w.alloc (.cells #[.slice A0 k0 c0, .slice A1 k1 c1, .slice A2 k2 c2, .slice A3 k3 c3] 26)).alloc (.cells (row k0 fun _ => str []).toArray 28)).alloc (.cells #[.slice (some ⟨w.heap.size + 1, 0, none⟩) k0 k0] 27)).alloc (.cells (row k0 fun _ => .int .i64 0).toArray 3)).alloc (.cells #[.slice (some ⟨w.heap.size + 1 + 1 + 1, 0, none⟩) k0 k0] 29)).alloc (.cells #[.slice none 0 0] 29)) (w.heap.size + 1 + 1) 27 #[.slice (some ⟨w.heap.size + 1, 0, none⟩) k0 k0] := by
    have h := (((Blk.new ((w.alloc (.cells #[.slice A0 k0 c0, .slice A1 k1 c1, .slice A2 k2 c2, .slice A3 k3 c3] 26)).alloc (.cells (row k0 fun _ => str []).toArray 28)) 27 #[.slice (some ⟨w.heap.size + 1, 0, none⟩) k0 k0]).alloc (.cells (row k0 fun _ => .int .i64 0).toArray 3)).alloc (.cells #[.slice (some ⟨w.heap.size + 1 + 1 + 1, 0, none⟩) k0 k0] 29)).alloc (.cells #[.slice none 0 0] 29)
    simp only [World.size_alloc] at h
    exact h
  have hRA : RowIs ((((((w.alloc (.cells #[.slice A0 k0 c0, .slice A1 k1 c1, .slice A2 k2 c2, .slice A3 k3 c3] 26)).alloc (.cells (row k0 fun _ => str []).toArray 28)).alloc (.cells #[.slice (some ⟨w.heap.size + 1, 0, none⟩) k0 k0] 27)).alloc (.cells (row k0 fun _ => .int .i64 0).toArray 3)).alloc (.cells #[.slice (some ⟨w.heap.size + 1 + 1 + 1, 0, none⟩) k0 k0] 29)).alloc (.cells #[.slice none 0 0] 29)) (w.heap.size + 1 + 1 + 1) 3 k0 (atF fx asked 0) := by
    have h := ((Blk.new (((w.alloc (.cells #[.slice A0 k0 c0, .slice A1 k1 c1, .slice A2 k2 c2, .slice A3 k3 c3] 26)).alloc (.cells (row k0 fun _ => str []).toArray 28)).alloc (.cells #[.slice (some ⟨w.heap.size + 1, 0, none⟩) k0 k0] 27)) 3 (row k0 fun _ => .int .i64 0).toArray).alloc (.cells #[.slice (some ⟨w.heap.size + 1 + 1 + 1, 0, none⟩) k0 k0] 29)).alloc (.cells #[.slice none 0 0] 29)
    simp only [World.size_alloc] at h
    exact RowIs.congr (f := fun _ => .int .i64 0) h (fun k _ => by unfold atF; rw [if_neg (by omega)])
  have hBA : Blk ((((((w.alloc (.cells #[.slice A0 k0 c0, .slice A1 k1 c1, .slice A2 k2 c2, .slice A3 k3 c3] 26)).alloc (.cells (row k0 fun _ => str []).toArray 28)).alloc (.cells #[.slice (some ⟨w.heap.size + 1, 0, none⟩) k0 k0] 27)).alloc (.cells (row k0 fun _ => .int .i64 0).toArray 3)).alloc (.cells #[.slice (some ⟨w.heap.size + 1 + 1 + 1, 0, none⟩) k0 k0] 29)).alloc (.cells #[.slice none 0 0] 29)) (w.heap.size + 1 + 1 + 1 + 1) 29 #[.slice (some ⟨w.heap.size + 1 + 1 + 1, 0, none⟩) k0 k0] := by
    have h := (Blk.new ((((w.alloc (.cells #[.slice A0 k0 c0, .slice A1 k1 c1, .slice A2 k2 c2, .slice A3 k3 c3] 26)).alloc (.cells (row k0 fun _ => str []).toArray 28)).alloc (.cells #[.slice (some ⟨w.heap.size + 1, 0, none⟩) k0 k0] 27)).alloc (.cells (row k0 fun _ => .int .i64 0).toArray 3)) 29 #[.slice (some ⟨w.heap.size + 1 + 1 + 1, 0, none⟩) k0 k0]).alloc (.cells #[.slice none 0 0] 29)
    simp only [World.size_alloc] at h
    exact h
  have hBF : Blk ((((((w.alloc (.cells #[.slice A0 k0 c0, .slice A1 k1 c1, .slice A2 k2 c2, .slice A3 k3 c3] 26)).alloc (.cells (row k0 fun _ => str []).toArray 28)).alloc (.cells #[.slice (some ⟨w.heap.size + 1, 0, none⟩) k0 k0] 27)).alloc (.cells (row k0 fun _ => .int .i64 0).toArray 3)).alloc (.cells #[.slice (some ⟨w.heap.size + 1 + 1 + 1, 0, none⟩) k0 k0] 29)).alloc (.cells #[.slice none 0 0] 29)) (w.heap.size + 1 + 1 + 1 + 1 + 1) 29 #[.slice none 0 0] := by
    have h := Blk.new (((((w.alloc (.cells #[.slice A0 k0 c0, .slice A1 k1 c1, .slice A2 k2 c2, .slice A3 k3 c3] 26)).alloc (.cells (row k0 fun _ => str []).toArray 28)).alloc (.cells #[.slice (some ⟨w.heap.size + 1, 0, none⟩) k0 k0] 27)).alloc (.cells (row k0 fun _ => .int .i64 0).toArray 3)).alloc (.cells #[.slice (some ⟨w.heap.size + 1 + 1 + 1, 0, none⟩) k0 k0] 29)) 29 #[.slice none 0 0]
    simp only [World.size_alloc] at h
    exact h
  have hW : Below w.heap.size w ((((((w.alloc (.cells #[.slice A0 k0 c0, .slice A1 k1 c1, .slice A2 k2 c2, .slice A3 k3 c3] 26)).alloc (.cells (row k0 fun _ => str []).toArray 28)).alloc (.cells #[.slice (some ⟨w.heap.size + 1, 0, none⟩) k0 k0] 27)).alloc (.cells (row k0 fun _ => .int .i64 0).toArray 3)).alloc (.cells #[.slice (some ⟨w.heap.size + 1 + 1 + 1, 0, none⟩) k0 k0] 29)).alloc (.cells #[.slice none 0 0] 29)) := ext (ext (ext (ext (ext (ext_alloc w _) (ext_alloc _ _)) (ext_alloc _ _)) (ext_alloc _ _)) (ext_alloc _ _)) (ext_alloc _ _)
  have HK := hide hK
  have HRO := hide hRO
  have HBO := hide hBO
  have HRA := hide hRA
  have HBA := hide hBA
  have HBF := hide hBF
  have HW := hide hW
  clear hK hRO hBO hRA hBA hBF hW
  generalize ((((((w.alloc (.cells #[.slice A0 k0 c0, .slice A1 k1 c1, .slice A2 k2 c2, .slice A3 k3 c3] 26)).alloc (.cells (row k0 fun _ => str []).toArray 28)).alloc (.cells #[.slice (some ⟨w.heap.size + 1, 0, none⟩) k0 k0] 27)).alloc (.cells (row k0 fun _ => .int .i64 0).toArray 3)).alloc (.cells #[.slice (some ⟨w.heap.size + 1 + 1 + 1, 0, none⟩) k0 k0] 29)).alloc (.cells #[.slice none 0 0] 29)) = WS at HK HRO HBO HRA HBA HBF HW ⊢
  have HB : Hid (w.heap.size < w.heap.size + 1 ∧ w.heap.size + 1 < w.heap.size + 1 + 1 ∧ w.heap.size + 1 + 1 < w.heap.size + 1 + 1 + 1 ∧ w.heap.size + 1 + 1 + 1 < w.heap.size + 1 + 1 + 1 + 1 ∧ w.heap.size + 1 + 1 + 1 + 1 < w.heap.size + 1 + 1 + 1 + 1 + 1) := ⟨by omega, by omega, by omega, by omega, by omega⟩
  generalize w.heap.size + 1 + 1 + 1 + 1 + 1 = bF at HB HBF ⊢
  generalize w.heap.size + 1 + 1 + 1 + 1 = bA at HB HBA ⊢
  generalize w.heap.size + 1 + 1 + 1 = gA at HB HRA HBA ⊢
  generalize w.heap.size + 1 + 1 = bO at HB HBO ⊢
  generalize w.heap.size + 1 = gO at HB HRO HBO ⊢
  have HR0 : Hid (WS.ownsRow (bF + 1) 3 1 (.slice none 0 0) (rank (isFree fx asked) 0) (ints (frInts fx asked 0))) := hide (World.ownsRow_nil _ _ _ _)
  go_loopw [37] (HeaM k0 fx asked gO bO gA bA bF w #[.slice A0 k0 c0, .slice A1 k1 c1, .slice A2 k2 c2, .slice A3 k3 c3]) (fun iv _ => k0 - (intOf iv).toNat)
  case atStart => exact ⟨0, _, Nat.zero_le _, rfl, HK, HRO, HBO, HRA, HBA, HBF, HR0, HW⟩
  case round =>
    clear HK HRO HBO HRA HBA HBF HR0 HW
    obtain ⟨k, fv, hk, rfl, HK, HRO, HBO, HRA, HBA, HBF, HFO, HW⟩ := hrel
    by_cases hlt : k < k0
    · have hkN : k < n.nodes.length := by have := HK0.out; omega
      have hki : (k : Int) < (k0 : Int) := by omega
      have hl := HLV.out k hkN
      obtain ⟨x, hx⟩ : ∃ x, x = fracText (outOf fx k) := ⟨_, rfl⟩
      obtain ⟨b, hbq⟩ : ∃ b, b = (fx k).isSome := ⟨_, rfl⟩
      rw [← hx, ← hbq] at hl
      have HX := hide hx
      have HBQ := hide hbq
      clear hx hbq
      have r0 := HK.out.cell 0
      have r1 := HK.out.cell 1
      have r2 := HK.out.cell 2
      have r3 := HK.out.cell 3
      have rL := HK.out.lt
      have o0 := HBO.out.cell 0
      have oL := HBO.out.lt
      have a0 := HBA.out.cell 0
      have aL := HBA.out.lt
      have f0 := HBF.out.cell 0
      have fL := HBF.out.lt
      simp at r0 r1 r2 r3 o0 a0 f0
      go_wp2_with fail
      refine (hl _ HW.out).mono ?_
      rintro e WN ⟨rfl, hbB⟩
      try clear r0 r1 r2 r3 rL o0 oL a0 aL f0 fL
      have HK_ := hide (HK.out.below hbB HK.out.lt)
      have HBO_ := hide (HBO.out.below hbB HBO.out.lt)
      have HBA_ := hide (HBA.out.below hbB HBA.out.lt)
      have HBF_ := hide (HBF.out.below hbB HBF.out.lt)
      have HRO_ := hide (HRO.out.below hbB)
      have HRA_ := hide (HRA.out.below hbB)
      have HFO_ := hide (own_below HFO.out hbB)
      have HW_ := hide (ext HW.out hbB)
      clear HK HBO HBA HBF HRO HRA HFO HW
      have HK := HK_
      have HBO := HBO_
      have HBA := HBA_
      have HBF := HBF_
      have HRO := HRO_
      have HRA := HRA_
      have HFO := HFO_
      have HW := HW_
      clear HK_ HBO_ HBA_ HBF_ HRO_ HRA_ HFO_ HW_
      clear hbB
      have r0 := HK.out.cell 0
      have r1 := HK.out.cell 1
      have r2 := HK.out.cell 2
      have r3 := HK.out.cell 3
      have rL := HK.out.lt
      have o0 := HBO.out.cell 0
      have oL := HBO.out.lt
      have a0 := HBA.out.cell 0
      have aL := HBA.out.lt
      have f0 := HBF.out.cell 0
      have fL := HBF.out.lt
      simp at r0 r1 r2 r3 o0 a0 f0
      clear hl
      have co := HRO.out.cell hlt
      have ca := HRA.out.cell hlt
      have fo := HRO.out.frozen k
      have fa := HRA.out.frozen k
      have lo := HRO.out.lt
      have la := HRA.out.lt
      have d1 : ¬ gO = bA := by have := HB.out; omega
      have d2 : ¬ gO = gA := by have := HB.out; omega
      go_wp2_with fail
      go_region
      have hRO2 := (HRO.out.set_ (k := k) (v := str x) (f' := outF fx (k + 1)) (by unfold outF; rw [if_pos (by omega), HX.out]) (fun j _ hj => by unfold outF; congr 1; by_cases h : j < k; rw [if_pos h, if_pos (by omega)]; rw [if_neg h, if_neg (by omega)])).far (p := ⟨gA, k, none⟩) (show gO ≠ gA by omega) (.int .i64 (-1))
      have hRA2 := (HRA.out.far (p := ⟨gO, k, none⟩) (show gA ≠ gO by omega) (str x)).set_ (k := k) (v := .int .i64 (-1)) (f' := fun j => if j = k then .int .i64 (-1) else atF fx asked k j) (if_pos rfl) (fun j _ hj => if_neg hj)
      have hK2 := (HK.out.far (p := ⟨gO, k, none⟩) (show w.heap.size ≠ gO by have := HB.out; omega) (str x)).far (p := ⟨gA, k, none⟩) (show w.heap.size ≠ gA by have := HB.out; omega) (.int .i64 (-1))
      have hBO2 := (HBO.out.far (p := ⟨gO, k, none⟩) (show bO ≠ gO by have := HB.out; omega) (str x)).far (p := ⟨gA, k, none⟩) (show bO ≠ gA by have := HB.out; omega) (.int .i64 (-1))
      have hBA2 := (HBA.out.far (p := ⟨gO, k, none⟩) (show bA ≠ gO by have := HB.out; omega) (str x)).far (p := ⟨gA, k, none⟩) (show bA ≠ gA by have := HB.out; omega) (.int .i64 (-1))
      have hBF2 := (HBF.out.far (p := ⟨gO, k, none⟩) (show bF ≠ gO by have := HB.out; omega) (str x)).far (p := ⟨gA, k, none⟩) (show bF ≠ gA by have := HB.out; omega) (.int .i64 (-1))
      have hFO2 := own_far (own_far HFO.out (p := ⟨gO, k, none⟩) (show gO < bF + 1 by have := HB.out; omega) (str x)) (p := ⟨gA, k, none⟩) (show gA < bF + 1 by have := HB.out; omega) (.int .i64 (-1))
      have hW2 := (HW.out.setCell (p := ⟨gO, k, none⟩) (show w.heap.size ≤ gO by have := HB.out; omega) (str x)).setCell (p := ⟨gA, k, none⟩) (show w.heap.size ≤ gA by have := HB.out; omega) (.int .i64 (-1))
      clear co ca fo fa lo la r0 r1 r2 r3 rL o0 oL a0 aL f0 fL HK HRO HBO HRA HBA HBF HFO HW
      have HRO := hide hRO2
      have HRA := hide hRA2
      have HK := hide hK2
      have HBO := hide hBO2
      have HBA := hide hBA2
      have HBF := hide hBF2
      have HFO := hide hFO2
      have HW := hide hW2
      clear hRO2 hRA2 hK2 hBO2 hBA2 hBF2 hFO2 hW2
      generalize ((WN.setCell ⟨gO, k, none⟩ (str x)).setCell ⟨gA, k, none⟩ (.int .i64 (-1))) = WA at HK HRO HBO HRA HBA HBF HFO HW ⊢
      have hdr : Below WA.heap.size WA WA.drew := ext_drewN WA 1
      have HK_ := hide (HK.out.below hdr HK.out.lt)
      have HBO_ := hide (HBO.out.below hdr HBO.out.lt)
      have HBA_ := hide (HBA.out.below hdr HBA.out.lt)
      have HBF_ := hide (HBF.out.below hdr HBF.out.lt)
      have HRO_ := hide (HRO.out.below hdr)
      have HRA_ := hide (HRA.out.below hdr)
      have HFO_ := hide (own_below HFO.out hdr)
      have HW_ := hide (ext HW.out hdr)
      clear HK HBO HBA HBF HRO HRA HFO HW
      have HK := HK_
      have HBO := HBO_
      have HBA := HBA_
      have HBF := HBF_
      have HRO := HRO_
      have HRA := HRA_
      have HFO := HFO_
      have HW := HW_
      clear HK_ HBO_ HBA_ HBF_ HRO_ HRA_ HFO_ HW_
      generalize WA.drew = WB at hdr HK HRO HBO HRA HBA HBF HFO HW ⊢
      clear hdr
      have r0 := HK.out.cell 0
      have r1 := HK.out.cell 1
      have r2 := HK.out.cell 2
      have r3 := HK.out.cell 3
      have rL := HK.out.lt
      have o0 := HBO.out.cell 0
      have oL := HBO.out.lt
      have a0 := HBA.out.cell 0
      have aL := HBA.out.lt
      have f0 := HBF.out.cell 0
      have fL := HBF.out.lt
      simp at r0 r1 r2 r3 o0 a0 f0
      cases b with
      | true =>
        have HNF : Hid (isFree fx asked k = false) := hide (free_not (fun h => by rw [← HBQ.out] at h; cases h.1))
        have HRA2 : Hid (RowIs WB gA 3 k0 (atF fx asked (k + 1))) := hide (HRA.out.congr (fun j _ => by
          unfold atF
          by_cases h : j = k
          · rw [if_pos h, if_pos (by omega), h, fr_none HNF.out]; rfl
          · rw [if_neg h]; congr 1
            by_cases h2 : j < k
            · rw [if_pos h2, if_pos (by omega)]
            · rw [if_neg h2, if_neg (by omega)]))
        have HFO2 : Hid (WB.ownsRow (bF + 1) 3 1 fv (rank (isFree fx asked) (k + 1)) (ints (frInts fx asked (k + 1)))) := hide (by
          have h := HFO.out
          rw [rank_succ, HNF.out]
          unfold frInts
          rw [frees_succ, HNF.out]
          simpa [frInts] using h)
        go_wp2_with fail
        go_round
        case rel => exact ⟨k + 1, fv, by omega, by go_num, HK, HRO, HBO, HRA2, HBA, HBF, HFO2, HW⟩
        case measure => simp [intOf]; omega
      | false =>
        have hkb : k < bs.length := by have := HBL.out; omega
        obtain ⟨ad, e1, hbb, q0⟩ : ∃ ad, Ab = some ad ∧ ad.block < WB.heap.size ∧ WB.cell? (ad.add k) = some (.bool bs[k]) := by
          obtain ⟨ad, e1, hb, hc⟩ := (HBR.out.below HW.out).2 (by omega)
          exact ⟨ad, e1, Nat.lt_of_lt_of_le hb HW.out.size, hc k _ (by simp [bools, hkb])⟩
        subst e1
        have hak : asked k = bs[k] := by rw [HASK.out]; simp [List.getD, List.getElem?_eq_getElem hkb]
        have HAK := hide hak
        clear hak hbb
        cases hbk : bs[k] with
        | false =>
          rw [hbk] at q0
          have HNF : Hid (isFree fx asked k = false) := hide (free_not (fun h => by rw [HAK.out, hbk] at h; cases h.2))
          have HRA2 : Hid (RowIs WB gA 3 k0 (atF fx asked (k + 1))) := hide (HRA.out.congr (fun j _ => by
            unfold atF
            by_cases h : j = k
            · rw [if_pos h, if_pos (by omega), h, fr_none HNF.out]; rfl
            · rw [if_neg h]; congr 1
              by_cases h2 : j < k
              · rw [if_pos h2, if_pos (by omega)]
              · rw [if_neg h2, if_neg (by omega)]))
          have HFO2 : Hid (WB.ownsRow (bF + 1) 3 1 fv (rank (isFree fx asked) (k + 1)) (ints (frInts fx asked (k + 1)))) := hide (by
            have h := HFO.out
            rw [rank_succ, HNF.out]
            unfold frInts
            rw [frees_succ, HNF.out]
            simpa [frInts] using h)
          clear hbk
          go_wp2_with fail
          go_round
          case rel => exact ⟨k + 1, fv, by omega, by go_num, HK, HRO, HBO, HRA2, HBA, HBF, HFO2, HW⟩
          case measure => simp [intOf]; omega
        | true =>
          rw [hbk] at q0
          have HYF : Hid (isFree fx asked k = true) := hide (free_is HBQ.out.symm (by rw [HAK.out, hbk]))
          clear hbk
          obtain ⟨m, hm⟩ : ∃ m, m = rank (isFree fx asked) k := ⟨_, rfl⟩
          rw [← hm] at HFO
          have HM := hide hm
          have hm6 : m ≤ k := by rw [hm]; exact rank_le _ _
          clear hm
          obtain ⟨Af, cf, hfv⟩ := own_slice HFO.out
          subst hfv
          have ca := HRA.out.cell hlt
          have fa := HRA.out.frozen k
          have la := HRA.out.lt
          have ff := HBF.out.frozen 0
          have d3 : ¬ gA = bF := by have := HB.out; omega
          have d4 : ¬ gA = bA := by have := HB.out; omega
          have hne : w.heap.size ≠ gA ∧ w.heap.size ≠ bF ∧ bO ≠ gA ∧ bO ≠ bF ∧ bA ≠ gA ∧ bA ≠ bF ∧ bF ≠ gA ∧ gO ≠ gA ∧ gO ≠ bF ∧ gA ≠ bF ∧ gA < bF + 1 ∧ w.heap.size ≤ gA ∧ w.heap.size ≤ bF := by have := HB.out; omega
          have HNE := hide hne
          have HRA1 : Hid (RowIs (WB.setCell ⟨gA, k, none⟩ (.int .i64 (m : Int))) gA 3 k0 (atF fx asked (k + 1))) := hide (HRA.out.set_ (by unfold atF; rw [if_pos (by omega), fr_some HYF.out, ← HM.out]; rfl) (fun j _ hj => by
            rw [if_neg hj]
            unfold atF
            congr 1
            by_cases h2 : j < k
            · rw [if_pos h2, if_pos (by omega)]
            · rw [if_neg h2, if_neg (by omega)]))
          have HK1 := hide (HK.out.far (p := ⟨gA, k, none⟩) hne.1 (.int .i64 (m : Int)))
          have HBO1 := hide (HBO.out.far (p := ⟨gA, k, none⟩) hne.2.2.1 (.int .i64 (m : Int)))
          have HBA1 := hide (HBA.out.far (p := ⟨gA, k, none⟩) hne.2.2.2.2.1 (.int .i64 (m : Int)))
          have HBF1 := hide (HBF.out.far (p := ⟨gA, k, none⟩) hne.2.2.2.2.2.2.1 (.int .i64 (m : Int)))
          have HRO1 := hide (HRO.out.far (p := ⟨gA, k, none⟩) hne.2.2.2.2.2.2.2.1 (.int .i64 (m : Int)))
          have HFO1 := hide (own_far HFO.out (p := ⟨gA, k, none⟩) hne.2.2.2.2.2.2.2.2.2.2.1 (.int .i64 (m : Int)))
          have HW1 := hide (HW.out.setCell (p := ⟨gA, k, none⟩) hne.2.2.2.2.2.2.2.2.2.2.2.1 (.int .i64 (m : Int)))
          have hlo : bF < (WB.setCell ⟨gA, k, none⟩ (.int .i64 (m : Int))).heap.size := HBF1.out.lt
          clear hne
          have h1c : ∀ u ∈ [Value.int .i64 (k : Int)], u.oneCell' = true := by
            intro u hu
            rw [List.mem_singleton] at hu
            subst hu; rfl
          have hrd := reads_new (WB.setCell ⟨gA, k, none⟩ (.int .i64 (m : Int))) 3 (.int .i64 (k : Int))
          have hsz : (WB.setCell ⟨gA, k, none⟩ (.int .i64 (m : Int))).heap.size = WB.heap.size := by simp
          rw [hsz] at hrd hlo
          go_wp2_with (at_builtin; refine wpList_append_any _ rfl (.tmp 66) (.tmp 68) _ rfl (bF + 1) 3 i0 _ 1 8 Tryz.underlying29 hi0 hz0 hz1 hz2 rfl (by omega) _ m _ rfl (HFO1.out.alloc _) _ (some ⟨WB.heap.size, 0, none⟩) 1 1 _ rfl hrd h1c ?o2 ?o3 ?o4 ?_)
          case o2 => unfold maxLen; omega
          case o3 => omega
          case o4 => omega
          intro v3 w3 hown3 hgr3 hat3
          have hge := own_ge HFO1.out
          have hx := ext_alloc (WB.setCell ⟨gA, k, none⟩ (.int .i64 (m : Int))) (.cells #[.int .i64 (k : Int)] 3)
          have HK3 := hide ((HK1.out.below hx HK1.out.lt).grown hgr3 (fun e => by have := hge _ e.symm; have := HB.out; omega))
          have HBO3 := hide ((HBO1.out.below hx HBO1.out.lt).grown hgr3 (fun e => by have := hge _ e.symm; have := HB.out; omega))
          have HBA3 := hide ((HBA1.out.below hx HBA1.out.lt).grown hgr3 (fun e => by have := hge _ e.symm; have := HB.out; omega))
          have HBF3 := hide ((HBF1.out.below hx HBF1.out.lt).grown hgr3 (fun e => by have := hge _ e.symm; have := HB.out; omega))
          have HRO3 := hide ((HRO1.out.below hx).grown hgr3 (fun e => by have := hge _ e.symm; have := HB.out; omega))
          have HRA3 := hide ((HRA1.out.below hx).grown hgr3 (fun e => by have := hge _ e.symm; have := HB.out; omega))
          have HW3 := hide ((ext HW1.out hx).grown hgr3 (by have := HW1.out.size; simp only [World.size_alloc]; omega) (fun k hk => by have := hge k hk; have := HB.out; omega))
          have HFO3 : Hid (w3.ownsRow (bF + 1) 3 1 v3 (rank (isFree fx asked) (k + 1)) (ints (frInts fx asked (k + 1)))) := hide (by
            rw [rank_succ, if_pos HYF.out, ← HM.out]
            unfold frInts
            rw [frees_succ, if_pos HYF.out]
            unfold ints at hown3 ⊢
            rw [List.map_append, List.map_append]
            exact hown3)
          clear HK1 HBO1 HBA1 HBF1 HRO1 HRA1 HFO1 HW1 HK HBO HBA HBF HRO HRA HFO HW hown3 hgr3 hat3 hge hx hrd h1c ca fa la ff f0 fL a0 aL o0 oL r0 r1 r2 r3 rL q0
          obtain ⟨A9, c9, hv3⟩ := own_slice HFO3.out
          subst hv3
          have ff := HBF3.out.frozen 0
          have fl := HBF3.out.lt
          have f0 := HBF3.out.cell 0
          simp at f0
          go_wp2_with fail
          go_round
          case rel => exact ⟨k + 1, _, by omega, by go_num, HK3.out.far HNE.out.2.1 _, HRO3.out.far HNE.out.2.2.2.2.2.2.2.2.1 _, HBO3.out.far HNE.out.2.2.2.1 _, HRA3.out.far HNE.out.2.2.2.2.2.2.2.2.2.1 _, HBA3.out.far HNE.out.2.2.2.2.2.1 _, HBF3.out.set_ 0 _, own_far HFO3.out (Nat.lt_succ_self _) _, HW3.out.setCell HNE.out.2.2.2.2.2.2.2.2.2.2.2.2 _⟩
          case measure => simp [intOf]; omega
    · obtain rfl : k0 = k := by omega
      clear hlt hk
      obtain ⟨m, hm⟩ : ∃ m, m = rank (isFree fx asked) k0 := ⟨_, rfl⟩
      rw [← hm] at HFO
      have HM := hide hm
      have hm6 : m ≤ 6 := by have := rank_le (isFree fx asked) k0; omega
      clear hm
      obtain ⟨Af, cf, hfv⟩ := own_slice HFO.out
      subst hfv
      have hmc : m ≤ cf := by
        rcases HFO.out.2 with ⟨h0, h1⟩ | ⟨g, cap, cur, hv, hg, hh, r⟩
        · injection h0 with _ _ h3; omega
        · injection hv with _ _ h3; have := r.1; omega
      have hmk3 := fun w => makeRows .i64 m (by omega) w
      have r0 := HK.out.cell 0
      have r1 := HK.out.cell 1
      have r2 := HK.out.cell 2
      have r3 := HK.out.cell 3
      have rL := HK.out.lt
      have o0 := HBO.out.cell 0
      have oL := HBO.out.lt
      have a0 := HBA.out.cell 0
      have aL := HBA.out.lt
      have f0 := HBF.out.cell 0
      have fL := HBF.out.lt
      simp at r0 r1 r2 r3 o0 a0 f0
      go_wp2_with fail
      clear hmk3
      have hR : RowsIs ((wr.alloc (.cells (tcells m (fun _ _ => [])).toArray 106)).alloc (.cells #[.slice (some ⟨wr.heap.size, 0, none⟩) m m] 105)) wr.heap.size m (fun _ _ => []) := (Blk.new wr _ _).alloc _
      have hBR : Blk ((wr.alloc (.cells (tcells m (fun _ _ => [])).toArray 106)).alloc (.cells #[.slice (some ⟨wr.heap.size, 0, none⟩) m m] 105)) (wr.heap.size + 1) 105 #[.slice (some ⟨wr.heap.size, 0, none⟩) m m] := by
        have h := Blk.new (wr.alloc (.cells (tcells m (fun _ _ => [])).toArray 106)) 105 #[.slice (some ⟨wr.heap.size, 0, none⟩) m m]
        simp only [World.size_alloc] at h
        exact h
      have hWF : Below wr.heap.size wr ((wr.alloc (.cells (tcells m (fun _ _ => [])).toArray 106)).alloc (.cells #[.slice (some ⟨wr.heap.size, 0, none⟩) m m] 105)) := ext (ext_alloc _ _) (ext_alloc _ _)
      clear r0 r1 r2 r3 rL o0 oL a0 aL f0 fL
      have HR := hide hR
      have HBR := hide hBR
      have HWR := hide hWF
      clear hR hBR hWF
      have hfr := Reads.of_own HFO.out
      have HFR := hide hfr
      clear hfr
      generalize (wr.alloc (.cells (tcells m (fun _ _ => [])).toArray 106)).alloc (.cells #[.slice (some ⟨wr.heap.size, 0, none⟩) m m] 105) = WS2 at HR HBR HWR ⊢
      generalize wr = WF at *
      obtain ⟨vw_, hvw⟩ : ∃ v, v = fun i => fracText (-(wl ((frees (isFree fx asked) k0).getD i 0))) := ⟨_, rfl⟩
      have HV := hide hvw
      clear hvw
      go_loopw [76] (HeaR m vw_ WF) (fun iv _ => m - (intOf iv).toNat)
      case atStart => exact ⟨0, Nat.zero_le _, rfl, HR.out.congr (fun i c _ _ => by unfold startR; rw [if_neg (by omega)]), HBR, HWR⟩
      case round =>
        clear HR HBR HWR
        obtain ⟨i, hi, rfl, HR, HBR, HWR⟩ := hrel
        by_cases hil : i < m
        · have hii : (i : Int) < (m : Int) := by omega
          obtain ⟨kf, hkf⟩ : ∃ kf, kf = (frees (isFree fx asked) k0).getD i 0 := ⟨_, rfl⟩
          obtain ⟨ad, e1, hbb, q0⟩ : ∃ ad, Af = some ad ∧ ad.block < WF.heap.size ∧ wr.cell? (ad.add i) = some (.int .i64 (kf : Int)) := by
            obtain ⟨ad, e1, hb, hc⟩ := (HFR.out.below HWR.out).2 (by omega)
            exact ⟨ad, e1, hb, hc i _ (by rw [frInts_get (by rw [← HM.out]; exact hil), hkf])⟩
          subst e1
          have HKF := hide hkf
          clear hkf
          go_wp2_with fail
          go_loopw [81] (HeaC m vw_ i WF) (fun cv _ => 25 - (intOf cv).toNat)
          case atStart => exact ⟨0, Nat.zero_le _, rfl, by rw [fillR_zero]; exact HR, HBR, HWR⟩
          case round =>
            clear HR HBR HWR q0
            obtain ⟨k, hk, rfl, HR, HBR, HWR⟩ := hrel
            by_cases hkl : k < 25
            · have hki : (k : Int) < 25 := by omega
              have hk0' : (0 : Int) ≤ (k : Int) := by omega
              have b0 := HBR.out.cell 0
              simp at b0
              have ck := HR.out.cell hil hkl
              have fk := HR.out.frozen (i * 25 + k)
              have lk := HR.out.lt
              have HR2 := hide (HR.out.set_ (i := i) hkl [48])
              rw [fillR_upd] at HR2
              go_wp2_with fail
              go_round
              case rel => exact ⟨k + 1, by omega, by go_num, HR2, HBR.out.far (by simp) _, HWR.out.setCell (Nat.le_refl _) _⟩
              case measure => simp [intOf]; omega
            · obtain rfl : k = 25 := by omega
              have b0 := HBR.out.cell 0
              have hbf := HBF.out.below HWR.out HBF.out.lt
              have f0 := hbf.cell 0
              simp at b0 f0
              have fL := hbf.lt
              clear hbf
              have hm25 : (m : Int) < 25 := by omega
              have hm0 : (0 : Int) ≤ (m : Int) := by omega
              have ck := HR.out.cell hil (show m < 25 by omega)
              have fk := HR.out.frozen (i * 25 + m)
              have lk := HR.out.lt
              go_wp2_with fail
              have hkfN : kf < n.nodes.length := by rw [HKF.out, ← HK0.out]; exact (frees_mem _ (by rw [← HM.out]; exact hil)).1
              have hcall := fun t : Grow wr => HLW.out kf hkfN _ (ext (ext HW.out HWR.out) t.below)
              have hsx := HG.out.wd kf hkfN
              have hmin := minus_zero (Dz.short hsx (show 12 < 50000 by omega))
              have HSX := hide (frac_small (Dz.short hsx (show 12 < 50000 by omega)))
              rw [show -(wl kf) = -(wl ((frees (isFree fx asked) k0).getD i 0)) by rw [HKF.out]] at hmin
              have hvi : vw_ i = fracText (-(wl ((frees (isFree fx asked) k0).getD i 0))) := by rw [HV.out]
              rw [← hvi] at hmin
              have HMIN := hide hmin
              clear hsx hmin hvi
              obtain ⟨x, hx⟩ : ∃ x, x = fracText (wl kf) := ⟨_, rfl⟩
              rw [← hx] at hcall HSX HMIN
              clear hx
              have bL := HBR.out.lt
              have b0g := grown_cell bL b0
              have f0g := grown_cell fL f0
              refine wp_region_grown_float 9 11 11 (by kernel_rfl) rfl rfl rfl (by kernel_rfl) (by kernel_rfl) ?_ ?_ ?_
              · intro _ _ _ _ _ h9; exact h9
              · intro _ _ _ _ h9; exact h9
              simp only [augL, augO, List.take_succ_cons, List.take_zero, List.drop_succ_cons, List.drop_zero]
              repeat (quiet_step (first | (go_at_call 79; exact call_grown (hcall _))))
              refine wpQuiet_nil ?_
              rintro w9 ⟨t9, rfl⟩
              clear b0g f0g
              have hbB := grown_below wr t9
              try clear b0 bL
              have HBR_ := hide (HBR.out.below hbB HBR.out.lt)
              have HR_ := hide (HR.out.below hbB)
              have HWR_ := hide (ext HWR.out hbB)
              clear HBR HR HWR
              have HBR := HBR_
              have HR := HR_
              have HWR := HWR_
              clear HBR_ HR_ HWR_
              generalize grown wr t9 = WN at hbB HBR HR HWR ⊢
              clear t9
              have b0 := HBR.out.cell 0
              have bL := HBR.out.lt
              simp at b0
              clear b0 f0 fL ck fk lk hcall hbB
              have ck := HR.out.cell hil (show m < 25 by omega)
              have fk := HR.out.frozen (i * 25 + m)
              have lk := HR.out.lt
              have HR2 := hide (HR.out.set_ (i := i) (show m < 25 by omega) x)
              have HBR2 := hide (HBR.out.far (p := ⟨WF.heap.size, i * 25 + m, none⟩) (show WF.heap.size + 1 ≠ WF.heap.size by omega) (str x))
              have HWR2 := hide (HWR.out.setCell (p := ⟨WF.heap.size, i * 25 + m, none⟩) (Nat.le_refl _) (str x))
              have b0 := HBR2.out.cell 0
              have bL := HBR2.out.lt
              have hbf := HBF.out.below HWR2.out HBF.out.lt
              have f0 := hbf.cell 0
              have fL := hbf.lt
              have c2 := HR2.out.cell hil (show m < 25 by omega)
              have l2 := HR2.out.lt
              rw [upd_at] at c2
              simp only [List.getElem?_toArray, List.getElem?_cons_zero] at b0 f0
              clear hbf HR HBR HWR
              go_wp2_with fail
              generalize WN.setCell ⟨WF.heap.size, i * 25 + m, none⟩ (.string ⟨x.toArray⟩) = W2 at HR2 HBR2 HWR2 b0 bL f0 fL c2 l2 ⊢
              clear ck fk lk
              have hcm := fun w' => minus_call [48] x w' (by unfold SmallS; simp) HSX.out
              rw [HMIN.out] at hcm
              have b0g := grown_cell bL b0
              have f0g := grown_cell fL f0
              have c2g := grown_cell l2 c2
              refine wp_region_grown_tail 13 (by kernel_rfl) (by kernel_rfl) ?_
              simp only [List.take_succ_cons, List.take_zero, List.drop_succ_cons, List.drop_zero]
              repeat (quiet_step (first | (go_at_call 40; exact call_grown (hcm _))))
              refine wpQuiet_nil ?_
              rintro w9 ⟨t9, rfl⟩
              clear b0g f0g c2g
              have hbB := grown_below W2 t9
              try clear b0 bL
              have HBR2_ := hide (HBR2.out.below hbB HBR2.out.lt)
              have HR2_ := hide (HR2.out.below hbB)
              have HWR2_ := hide (ext HWR2.out hbB)
              clear HBR2 HR2 HWR2
              have HBR2 := HBR2_
              have HR2 := HR2_
              have HWR2 := HWR2_
              clear HBR2_ HR2_ HWR2_
              generalize grown W2 t9 = W3 at hbB HBR2 HR2 HWR2 ⊢
              clear t9
              have b0 := HBR2.out.cell 0
              have bL := HBR2.out.lt
              simp at b0
              clear c2 f0 fL l2 hcm hbB
              have ck := HR2.out.cell hil (show m < 25 by omega)
              have fk := HR2.out.frozen (i * 25 + m)
              have lk := HR2.out.lt
              have HR3 := hide ((HR2.out.set_ (i := i) (show m < 25 by omega) (vw_ i)).congr (startR_next rfl))
              have HBR3 := hide (HBR2.out.far (p := ⟨WF.heap.size, i * 25 + m, none⟩) (show WF.heap.size + 1 ≠ WF.heap.size by omega) (str (vw_ i)))
              have HWR3 := hide (HWR2.out.setCell (p := ⟨WF.heap.size, i * 25 + m, none⟩) (Nat.le_refl _) (str (vw_ i)))
              go_wp2_with fail
              go_round
              case rel => exact ⟨i + 1, by omega, by go_num, HR3, HBR3, HWR3⟩
              case measure => simp [intOf]; omega
        · obtain rfl : m = i := by omega
          clear hil hi
          have lF := HBF.out.lt
          have hA0 : WF.cell? ⟨bA, 0, none⟩ = some (.slice (some ⟨gA, 0, none⟩) k0 k0) := HBA.out.cell 0
          have hF0 : WF.cell? ⟨bF, 0, none⟩ = some (.slice Af m cf) := HBF.out.cell 0
          have hO0 : WF.cell? ⟨bO, 0, none⟩ = some (.slice (some ⟨gO, 0, none⟩) k0 k0) := HBO.out.cell 0
          have hput : ∀ (W : World) (R : Nat → Nat → List UInt8) (k o : Nat) (d : List UInt8), Below WF.heap.size WF W → RowsIs W WF.heap.size m R → Blk W (WF.heap.size + 1) 105 #[.slice (some ⟨WF.heap.size, 0, none⟩) m m] → k < k0 → o < k0 → (∀ i j, SmallS (R i j)) → SmallS d →
              Calls Tryz.prog 80 #[.int .i64 k, .int .i64 o, str d, .pointer (some ⟨bA, 0, none⟩), .pointer (some ⟨WF.heap.size + 1, 0, none⟩), .pointer (some ⟨bF, 0, none⟩), .pointer (some ⟨bO, 0, none⟩)] W (PutPost WF.heap.size m (putR m R (frNum fx asked k) (frNum fx asked o) (fracText (outOf fx o)) d) W) := by
            intro W R k o d hW hR hB hk ho hs hd
            have hB5 := HB.out
            refine put_row k0 m gA WF.heap.size gO bA (WF.heap.size + 1) bF bO k o cf Af _ _ d _ R W ((hW.cell (by simp only; omega)).trans hA0) hk ho (by omega) ((hW.cell (by simp only; omega)).trans ?_) ((hW.cell (by simp only; omega)).trans ?_) (hB.cell 0)
              (fun r hr => by rw [HM.out]; exact fr_lt hk hr) (fun r hr => by rw [HM.out]; exact fr_lt ho hr) ((hW.cell lF).trans hF0) ((hW.cell (by simp only; omega)).trans hO0) ((hW.cell (by simp only; omega)).trans ?_) ?_ (by omega) hR hs hd (by omega) (by omega) (by omega) (by omega) (by omega) (by omega)
            · rw [HRA.out.cell hk]; unfold atF; rw [if_pos hk]
            · rw [HRA.out.cell ho]; unfold atF; rw [if_pos ho]
            · rw [HRO.out.cell ho]; unfold outF; rw [if_pos ho]
            · exact frac_small (HG.out.short_out (by rw [← HK0.out]; exact ho))
          have HPUT := hide hput
          clear hput hA0 hF0 hO0 lF
          have HR1 : Hid (RowsIs wr WF.heap.size m (txt (tabAt n.pf n.pt c fx wl asked k0 0))) := hide (HR.out.congr (fun i c hi _ => by
            unfold startR txt tabAt
            rw [if_pos hi, ← HM.out, HV.out]
            by_cases h : c = m
            · rw [if_pos h, if_pos h]
            · rw [if_neg h, if_neg h]; exact (fracText_zero_iff.2 rfl).symm))
          have hk1 := HK.out.below HWR.out HK.out.lt
          have r1 := hk1.cell 1
          simp at r1
          clear HR hk1
          go_wp2_with fail
          clear r1
          go_loopw [121] (HeaP n c fx wl asked k0 m WF) (fun iv _ => k1 - (intOf iv).toNat)
          case atStart => exact ⟨0, Nat.zero_le _, rfl, HR1, HBR, HWR⟩
          case round =>
            clear HR1 HBR HWR
            obtain ⟨i, hi, rfl, HR, HBR, HWR⟩ := hrel
            by_cases hil : i < k1
            · have hin : i < n.pipes.length := by have := HK1.out; omega
              obtain ⟨ad, e1, hb, p0, p1, p2, p3, p4⟩ := (HN1.out.below (ext HW.out HWR.out)).at_ hin
              subst e1
              obtain ⟨ac, e2, hqc⟩ : ∃ ac, Ac = some ac ∧ ∀ W, Below WF.heap.size WF W → ac.block < W.heap.size ∧ W.cell? (ac.add i) = some (str (fracText (c i))) := by
                obtain ⟨ac, e1, hb, hc⟩ := HCR.out.2 (by omega)
                have hic : i < cs.length := by have := HCL.out; omega
                refine ⟨ac, e1, fun W hW => ?_⟩
                have hb2 := Nat.lt_of_lt_of_le hb (ext HW.out hW).size
                exact ⟨hb2, ((ext HW.out hW).cell (by rw [block_of_add]; exact hb)).trans (hc i _ (by rw [← HCT.out i hic]; simp [hic]))⟩
              subst e2
              have HQC := hide hqc
              clear hqc
              obtain ⟨q1, q2, q3, q4⟩ := HEN.out i hin
              rw [q1] at p1
              rw [q3] at p2
              have hf0 : n.pf i < k0 := by have := HK0.out; omega
              have ht0 : n.pt i < k0 := by have := HK0.out; omega
              have hii : (i : Int) < (k1 : Int) := by omega
              clear q1 q2 q3 q4
              go_wp2_with fail
              have hx := ext_alloc wr (.cells #[str n.pipes[i].name, .int .i64 (n.pf i : Int), .int .i64 (n.pt i : Int), str n.pipes[i].low, str n.pipes[i].high] 47)
              have HP := hide (Blk.new wr 47 #[str n.pipes[i].name, .int .i64 (n.pf i : Int), .int .i64 (n.pt i : Int), str n.pipes[i].low, str n.pipes[i].high])
              have HC := hide (HR.out.congr (R' := clip m (txt (tabAt n.pf n.pt c fx wl asked k0 i))) (fun i' j h _ => (clip_at h).symm))
              have hqr : wr.heap.size ≠ WF.heap.size := by have := HR.out.lt; omega
              clear HR p0 p1 p2 p3 p4 hb
              have HBR_ := hide (HBR.out.below hx HBR.out.lt)
              have HC_ := hide (HC.out.below hx)
              have HWR_ := hide (ext HWR.out hx)
              clear HBR HC HWR
              have HBR := HBR_
              have HC := HC_
              have HWR := HWR_
              clear HBR_ HC_ HWR_
              generalize wr.alloc (.cells #[str n.pipes[i].name, .int .i64 (n.pf i : Int), .int .i64 (n.pt i : Int), str n.pipes[i].low, str n.pipes[i].high] 47) = WP at HP HC HBR HWR ⊢
              generalize wr.heap.size = q at HP hqr ⊢
              clear hx
              have c1 := HP.out.cell 1
              have c2 := HP.out.cell 2
              have cL := HP.out.lt
              simp only [List.getElem?_toArray, List.getElem?_cons_succ, List.getElem?_cons_zero] at c1 c2
              obtain ⟨lc, qc⟩ := HQC.out WP HWR.out
              have c1g := grown_cell cL c1
              have c2g := grown_cell cL c2
              have qcg := grown_acell lc qc
              refine wp_region_grown_tail 9 (by kernel_rfl) (by kernel_rfl) ?_
              simp only [List.take_succ_cons, List.take_zero, List.drop_succ_cons, List.drop_zero]
              repeat (quiet_step (fail))
              refine wpQuiet_nil ?_
              rintro w9 ⟨t9, rfl⟩
              clear c1g c2g qcg
              have hbB := grown_below WP t9
              try clear b0 bL cL
              have HBR_ := hide (HBR.out.below hbB HBR.out.lt)
              have HC_ := hide (HC.out.below hbB)
              have HWR_ := hide (ext HWR.out hbB)
              have HP_ := hide (HP.out.below hbB HP.out.lt)
              clear HBR HC HWR HP
              have HBR := HBR_
              have HC := HC_
              have HWR := HWR_
              have HP := HP_
              clear HBR_ HC_ HWR_ HP_
              generalize grown WP t9 = WQ at hbB HBR HC HWR HP ⊢
              clear t9
              have b0 := HBR.out.cell 0
              have bL := HBR.out.lt
              have cL := HP.out.lt
              simp at b0
              clear c1 c2 lc qc cL
              have hip : i < k1 := hil
              have hcs : SmallS (fracText (c i)) := frac_small (Dz.short (HGK.out.cd i hip) (show 12 < 50000 by omega))
              have HCS := hide hcs
              have hp1 := (HPUT.out WQ _ (n.pf i) (n.pt i) (fracText (c i)) HWR.out HC.out HBR.out hf0 ht0 (by rw [HM.out]; exact HGK.out.tab_smallS (by omega)) hcs)
              have hpe : ∀ i' j, i' < m → j < 25 → putR m (clip m (txt (tabAt n.pf n.pt c fx wl asked k0 i))) (frNum fx asked (n.pf i)) (frNum fx asked (n.pt i)) (fracText (outOf fx (n.pt i))) (fracText (c i)) i' j = clip m (txt (halfAt n.pf n.pt c fx wl asked k0 i)) i' j := by
                intro i' j h _
                rw [clip_at h]
                rw [HM.out] at h ⊢
                exact HGK.out.put1 hip h
              have HPE := hide hpe
              clear hpe hcs
              go_wp2_with fail
              refine hp1.mono ?_
              rintro e W3 ⟨rfl, hR3, hg3⟩
              clear hp1
              have HC2 := hide (hR3.congr HPE.out)
              have HBR2 := hide (HBR.out.grown hg3 (by intro e; injection e; omega))
              have HP2 := hide (HP.out.grown hg3 (by intro e; injection e with e; exact hqr e))
              have HWR2 := hide (HWR.out.grown hg3 HWR.out.size (fun k hk => by injection hk with hk; omega))
              clear hR3 hg3 HC HBR HP HWR HPE
              have c1 := HP2.out.cell 1
              have c2 := HP2.out.cell 2
              have cL := HP2.out.lt
              simp only [List.getElem?_toArray, List.getElem?_cons_succ, List.getElem?_cons_zero] at c1 c2
              obtain ⟨lc, qc⟩ := HQC.out W3 HWR2.out
              go_wp2_with fail
              have c1g := grown_cell cL c1
              have c2g := grown_cell cL c2
              have qcg := grown_acell lc qc
              refine wp_region_grown_tail 9 (by kernel_rfl) (by kernel_rfl) ?_
              simp only [List.take_succ_cons, List.take_zero, List.drop_succ_cons, List.drop_zero]
              repeat (quiet_step (fail))
              refine wpQuiet_nil ?_
              rintro w9 ⟨t9, rfl⟩
              clear c1g c2g qcg
              have hbB := grown_below W3 t9
              try clear b0 bL cL
              have HBR2_ := hide (HBR2.out.below hbB HBR2.out.lt)
              have HC2_ := hide (HC2.out.below hbB)
              have HWR2_ := hide (ext HWR2.out hbB)
              have HP2_ := hide (HP2.out.below hbB HP2.out.lt)
              clear HBR2 HC2 HWR2 HP2
              have HBR2 := HBR2_
              have HC2 := HC2_
              have HWR2 := HWR2_
              have HP2 := HP2_
              clear HBR2_ HC2_ HWR2_ HP2_
              generalize grown W3 t9 = W4 at hbB HBR2 HC2 HWR2 HP2 ⊢
              clear t9
              have b0 := HBR2.out.cell 0
              have bL := HBR2.out.lt
              have cL := HP2.out.lt
              simp at b0
              clear c1 c2 lc qc cL
              have hp1 := (HPUT.out W4 _ (n.pt i) (n.pf i) (fracText (c i)) HWR2.out HC2.out HBR2.out ht0 hf0 (by rw [HM.out]; exact HGK.out.half_smallS (by omega)) HCS.out)
              have hpe : ∀ i' j, i' < m → j < 25 → putR m (clip m (txt (halfAt n.pf n.pt c fx wl asked k0 i))) (frNum fx asked (n.pt i)) (frNum fx asked (n.pf i)) (fracText (outOf fx (n.pf i))) (fracText (c i)) i' j = txt (tabAt n.pf n.pt c fx wl asked k0 (i + 1)) i' j := by
                intro i' j h _
                rw [HM.out] at h ⊢
                exact HGK.out.put2 hip h
              have HPE := hide hpe
              clear hpe
              go_wp2_with fail
              refine hp1.mono ?_
              rintro e W5 ⟨rfl, hR3, hg3⟩
              clear hp1
              have HC3 := hide (hR3.congr HPE.out)
              have HBR3 := hide (HBR2.out.grown hg3 (by intro e; injection e; omega))
              have HWR3 := hide (HWR2.out.grown hg3 HWR2.out.size (fun k hk => by injection hk with hk; omega))
              clear hR3 hg3 HC2 HBR2 HP2 HWR2 HPE
              go_wp2_with fail
              go_round
              case rel => exact ⟨i + 1, by omega, by go_num, HC3, HBR3, HWR3⟩
              case measure => simp [intOf]; omega
            · obtain rfl : k1 = i := by have := HK1.out; omega
              have hbf := HBF.out.below HWR.out HBF.out.lt
              have f0 := hbf.cell 0
              have b0 := HBR.out.cell 0
              simp at f0 b0
              clear hbf
              have hm24 : (m : Int) ≤ 24 := by omega
              have hsv := water_solved WF.heap.size m 200 (tabAt n.pf n.pt c fx wl asked k0 k1) wr HR.out (by rw [HM.out]; exact HGK.out.elim) (by omega) (by rw [HM.out]; exact HGK.out.fits)
              have hlr := HR.out.lt
              go_wp2_with fail
              refine hsv.mono ?_
              rintro e W2 ⟨v8, A, rfl, hEl, hown, hg2⟩
              clear hsv f0 b0
              obtain ⟨x, hx⟩ : ∃ x, x = fun i => A i m / A i i := ⟨_, rfl⟩
              have hown : W2.ownsRow wr.heap.size 28 1 v8 m ((List.range m).map fun i => str (fracText (x i))) := by rw [hx]; exact hown
              have hsol : Solves m (tabAt n.pf n.pt c fx wl asked k0 k1) x := by rw [hx]; exact hEl.1.done
              have hxd : ∀ i, i < m → Dz 12800 (x i) := by
                intro i hi
                have hle : 200 * 2 ^ m ≤ 12800 := by
                  have : 2 ^ m ≤ 2 ^ 6 := Nat.pow_le_pow_right (by omega) hm6
                  omega
                rw [hx]
                exact hEl.answer_dz hle hi
              have HSOL := hide hsol
              have HXD := hide hxd
              clear hx hEl hsol hxd
              obtain ⟨A8, c8, hv8⟩ := own_slice hown
              subst hv8
              have HWR2 := hide (HWR.out.grown hg2 HWR.out.size (fun k hk => by injection hk with hk; omega))
              have hlt := HBF.out.lt
              have hB5 := HB.out
              have HO := hide ((HRO.out.below HWR2.out).congr (outG_zero (x := x) (asked := asked)))
              have HBO2 := hide (HBO.out.below HWR2.out HBO.out.lt)
              have HBF2 := hide (HBF.out.below HWR2.out HBF.out.lt)
              have HFO2 := hide (own_below HFO.out HWR2.out)
              have HOW := hide hown
              have HW2 := hide (ext HW.out HWR2.out)
              have hg8 : gO < wr.heap.size := by omega
              obtain ⟨B8, hB8⟩ : ∃ B, B = wr.heap.size := ⟨_, rfl⟩
              rw [← hB8] at HOW hg8
              have HB8 := hide hg8
              clear hlt hB5 hown hg2 HWR HWR2 HR HBR hB8 hg8 hlr HRO HBO HBF HFO HFR
              go_wp2_with fail
              go_loopw [152] (HeaO fx asked x k0 m gO bO bF B8 Af A8 cf c8 w) (fun iv _ => m - (intOf iv).toNat)
              case atStart => exact ⟨0, Nat.zero_le _, rfl, HO, HBO2, HBF2, HFO2, HOW, HW2⟩
              case round =>
                clear HO HBO2 HBF2 HFO2 HOW HW2
                obtain ⟨i, hi, rfl, HO, HBO, HBF, HFO, HOW, HW2⟩ := hrel
                by_cases hil : i < m
                · have hii : (i : Int) < (m : Int) := by omega
                  obtain ⟨kf, hkf⟩ : ∃ kf, kf = (frees (isFree fx asked) k0).getD i 0 := ⟨_, rfl⟩
                  obtain ⟨ad, e1, hb1, q0⟩ : ∃ ad, Af = some ad ∧ ad.block < wr.heap.size ∧ wr.cell? (ad.add i) = some (.int .i64 (kf : Int)) := by
                    obtain ⟨ad, e1, hb, hc⟩ := (Reads.of_own HFO.out).2 (by omega)
                    exact ⟨ad, e1, hb, hc i _ (by rw [frInts_get (by rw [← HM.out]; exact hil), hkf])⟩
                  obtain ⟨a8, e8, hb8, q8⟩ : ∃ ad, A8 = some ad ∧ ad.block < wr.heap.size ∧ wr.cell? (ad.add i) = some (str (fracText (x i))) := by
                    obtain ⟨ad, e1, hb, hc⟩ := (Reads.of_own HOW.out).2 (by omega)
                    exact ⟨ad, e1, hb, hc i _ (by rw [List.getElem?_map, List.getElem?_range hil]; rfl)⟩
                  subst e1
                  subst e8
                  have hkl : kf < k0 := by rw [hkf]; exact (frees_mem _ (by rw [← HM.out]; exact hil)).1
                  have HKF := hide hkf
                  clear hkf
                  have hkf1 : (kf : Int) < (k0 : Int) := by omega
                  have o0 := HBO.out.cell 0
                  have f0 := HBF.out.cell 0
                  simp at o0 f0
                  have co := HO.out.cell hkl
                  have fo := HO.out.frozen kf
                  have lo := HO.out.lt
                  have hne : bO ≠ gO ∧ bF ≠ gO ∧ gO < bF + 1 ∧ gO < B8 ∧ w.heap.size ≤ gO := by have := HB.out; have := HB8.out; omega
                  have hO2 := HO.out.set_ (k := kf) (v := str (fracText (x i))) (f' := outG fx asked x (i + 1)) (by rw [HKF.out]; exact outG_at (by rw [← HM.out]; exact hil)) (fun j hj hne => outG_off (by rw [← HM.out]; exact hil) j hj (by rw [← HKF.out]; exact hne))
                  have hBO2 := HBO.out.far (p := ⟨gO, kf, none⟩) hne.1 (str (fracText (x i)))
                  have hBF2 := HBF.out.far (p := ⟨gO, kf, none⟩) hne.2.1 (str (fracText (x i)))
                  have hFO2 := own_far HFO.out (p := ⟨gO, kf, none⟩) hne.2.2.1 (str (fracText (x i)))
                  have hOW2 := own_far HOW.out (p := ⟨gO, kf, none⟩) hne.2.2.2.1 (str (fracText (x i)))
                  have hW2 := HW2.out.setCell (p := ⟨gO, kf, none⟩) hne.2.2.2.2 (str (fracText (x i)))
                  have HO2 := hide hO2
                  have HBO2 := hide hBO2
                  have HBF2 := hide hBF2
                  have HFO2 := hide hFO2
                  have HOW2 := hide hOW2
                  have HW3 := hide hW2
                  clear hO2 hBO2 hBF2 hFO2 hOW2 hW2 hne
                  go_wp2_with fail
                  go_region
                  have hdr : Below (wr.setCell ⟨gO, kf, none⟩ (.string ⟨(fracText (x i)).toArray⟩)).heap.size (wr.setCell ⟨gO, kf, none⟩ (.string ⟨(fracText (x i)).toArray⟩)) (wr.setCell ⟨gO, kf, none⟩ (.string ⟨(fracText (x i)).toArray⟩)).drew := ext_drewN _ 1
                  go_wp2_with fail
                  go_round
                  case rel => exact ⟨i + 1, by omega, by go_num, HO2.out.below hdr, HBO2.out.below hdr HBO2.out.lt, HBF2.out.below hdr HBF2.out.lt, own_below HFO2.out hdr, own_below HOW2.out hdr, ext HW3.out hdr⟩
                  case measure => simp [intOf]; omega
                · obtain rfl : m = i := by omega
                  have o0 := HBO.out.cell 0
                  simp at o0
                  go_wp2_with fail
                  go_ret
                  refine ⟨some ⟨gO, 0, none⟩, k0, extd fx asked x, by rw [← HK0.out]; rfl, HK0.out, ?_, fun k hk => ?_, ?_, HW2.out⟩
                  · rw [← HK0.out, ← HK1.out]
                    exact tab_heads n.pf n.pt c fx wl asked HGK.out.piped (by rw [← HM.out]; exact HSOL.out)
                  · rw [← HK0.out] at hk
                    by_cases h : isFree fx asked k = true
                    · rw [ext_free _ _ h]
                      exact (HXD.out _ (by rw [HM.out]; exact rank_lt _ hk h)).more (by omega)
                    · rw [ext_out _ _ h]
                      exact (HGK.out.fd k hk).more (by omega)
                  · rw [← HK0.out]
                    have h := Blk.reads (n := k0) HO.out (by simp [row])
                    rw [HM.out, row_congr outG_end] at h
                    rw [List.take_of_length_le (by simp [row])] at h
                    exact h
end Go.Proofs.YtdecgcdkaaiglaaGreat
namespace Go.Proofs.YtdecgcdkaaiglaaGreat
open Go.RowKit Go.Deep
attribute [local go_sem ↓] Go.wp_at_zero Go.wp_at_succ
/-- the error of a number that must be above 0 -/
def aboveErr (l : List UInt8) : Int := if numErr l ≠ 0 then numErr l else if numOf l ≤ 0 then 1 else 0
open Classical in
/-- the error of conductances -/
noncomputable def condErr (n : Net) (cs : List (List UInt8)) : Int := if cs.length ≠ n.pipes.length then 1 else firstErr cs.length (fun i => aboveErr (cs.getD i []))
noncomputable def askErr (n : Net) (cs : List (List UInt8)) : Int := if n.err ≠ 0 then n.err else condErr n cs
theorem aboveErr_ok {l : List UInt8} (h : aboveErr l = 0) : ∃ q, l = fracText q ∧ Short 12 q ∧ 0 < q := by
  unfold aboveErr at h
  by_cases h0 : numErr l = 0
  · rw [if_neg (by rw [h0]; decide)] at h
    obtain ⟨q, h1, h2, h3, h4⟩ := numErr_ok h0
    refine ⟨q, h4, h2, ?_⟩
    rw [h3] at h
    by_cases h5 : q ≤ 0
    · rw [if_pos h5] at h; cases h
    · grind
  · rw [if_pos h0] at h; exact absurd h h0
set_option maxRecDepth 100000 in
set_option maxHeartbeats 4000000 in
theorem water_above (l : List UInt8) (w : World) (hs : SmallS l) : Calls Tryz.prog 117 #[str l] w (RetB w (.int .i64 (aboveErr l))) := by
  have hsl := smallS_size hs
  have h1 := fun w => water_number ⟨l.toArray⟩ w hsl
  rw [bts_mk] at h1
  obtain ⟨r, HR⟩ : ∃ r, Hid (aboveErr l = r) := ⟨_, hide rfl⟩
  rw [HR.out]
  unfold aboveErr at HR
  by_cases h0 : numErr l = 0
  · obtain ⟨q, e1, e2, e3, e4⟩ := numErr_ok h0
    have h2 : ∀ w, Calls Tryz.prog 149 #[.string ⟨#[48]⟩, str l] w (RetB w (.bool (decide (0 < q)))) := by
      intro w
      have h := water_less ⟨#[48]⟩ ⟨l.toArray⟩ w (by decide) hsl
      rw [show bts ⟨#[48]⟩ = [48] from rfl, bts_mk, less_read read_zero e1] at h
      exact h
    rw [h0, if_neg (by decide), e3] at HR
    rw [h0] at h1
    clear e1 e2 e3 e4 h0 hs hsl
    by_cases hq : 0 < q
    · have HF : Hid (r = 0) := hide (by have := HR.out; rw [if_neg (by grind)] at this; exact this.symm)
      rw [decide_eq_true hq] at h2
      clear hq HR
      go_enter Tryz.func117, Tryz.ntmps117
      go_wp2_with fail
      refine (h1 _).mono ?_
      rintro e w1 ⟨rfl, hb1⟩
      have HW := hide hb1
      clear hb1 h1
      go_wp2_with fail
      refine (h2 _).mono ?_
      rintro e w2 ⟨rfl, hb2⟩
      have HW2 := hide (ext HW.out hb2)
      clear hb2 h2
      go_wp2_with fail
      go_ret
      exact ⟨ret_i64' HF.out, HW2.out⟩
    · have HF : Hid (r = 1) := hide (by have := HR.out; rw [if_pos (by grind)] at this; exact this.symm)
      rw [decide_eq_false hq] at h2
      clear hq HR
      go_enter Tryz.func117, Tryz.ntmps117
      go_wp2_with fail
      refine (h1 _).mono ?_
      rintro e w1 ⟨rfl, hb1⟩
      have HW := hide hb1
      clear hb1 h1
      go_wp2_with fail
      refine (h2 _).mono ?_
      rintro e w2 ⟨rfl, hb2⟩
      have HW2 := hide (ext HW.out hb2)
      clear hb2 h2
      go_wp2_with fail
      go_ret
      exact ⟨ret_i64' HF.out, HW2.out⟩
  · obtain ⟨x, HX⟩ : ∃ x, Hid (numErr l = x) := ⟨_, hide rfl⟩
    rw [HX.out] at h0 h1 HR
    have HF : Hid (r = x) := hide (by have := HR.out; rw [if_pos h0] at this; exact this.symm)
    have hI : (x != 0) = true := by rw [bne_iff_ne]; exact h0
    clear h0 HR hs hsl
    go_enter Tryz.func117, Tryz.ntmps117
    go_wp2_with fail
    refine (h1 _).mono ?_
    rintro e w1 ⟨rfl, hb1⟩
    have HW := hide hb1
    clear hb1 h1
    go_wp2_with fail
    go_ret
    exact ⟨ret_i64' HF.out, HW.out⟩
def CndR (cs : List (List UInt8)) (w : World) (nb : Array Value) (iv : Value) (wr : World) : Prop :=
  ∃ i : Nat, i ≤ cs.length ∧ iv = .int .i64 i ∧ Hid (∀ j, j < i → aboveErr (cs.getD j []) = 0) ∧ Hid (Blk wr w.heap.size 26 nb) ∧ Hid (Below w.heap.size w wr)
set_option maxRecDepth 100000 in
set_option maxHeartbeats 8000000 in
theorem water_checkcond (vn vc : Value) (n : Net) (cs : List (List UInt8)) (w : World) (hn : NetIs w vn n) (hc : NodesIs w vc cs) :
    Calls Tryz.prog 78 #[vn, vc] w (RetB w (.int .i64 (condErr n cs))) := by
  obtain ⟨A0, k0, c0, A1, k1, c1, A2, k2, c2, A3, k3, c3, rfl, hn0, hn1, hn2, hn3⟩ := hn
  have hk1 : k1 = n.pipes.length := by obtain ⟨A', c', e, _⟩ := hn1; injection e
  have hb1 : k1 ≤ 1000 := by obtain ⟨A', c', e, _, _, h6, _⟩ := hn1; omega
  have HC := hide hc
  obtain ⟨Ac, cc, rfl, hc1, hc2, hc3, hcr, hcs⟩ := hc
  have HCS := hide hcs
  have HW := hide (ext_alloc w (.cells #[.slice A0 k0 c0, .slice A1 k1 c1, .slice A2 k2 c2, .slice A3 k3 c3] 26))
  have HK := hide (Blk.new w 26 #[.slice A0 k0 c0, .slice A1 k1 c1, .slice A2 k2 c2, .slice A3 k3 c3])
  have HK1 := hide hk1
  obtain ⟨r, HR⟩ : ∃ r, Hid (condErr n cs = r) := ⟨_, hide rfl⟩
  rw [HR.out]
  unfold condErr at HR
  clear hn0 hn1 hn2 hn3 hk1 hcr hcs hc2
  have r0 := HK.out.cell 0
  have r1 := HK.out.cell 1
  have r2 := HK.out.cell 2
  have r3 := HK.out.cell 3
  have rL := HK.out.lt
  simp at r0 r1 r2 r3
  by_cases hl : cs.length = k1
  · have HR2 : Hid (firstErr cs.length (fun i => aboveErr (cs.getD i [])) = r) := hide (by have := HR.out; rw [if_neg (by have := HK1.out; omega)] at this; exact this)
    clear HR
    subst hl
    have hI : ((cs.length : Int) != (cs.length : Int)) = false := by simp
    go_enter Tryz.func78, Tryz.ntmps78
    go_wp2_with fail
    clear r0 r1 r2 r3 rL
    go_loopw [16] (CndR cs w #[.slice A0 k0 c0, .slice A1 cs.length c1, .slice A2 k2 c2, .slice A3 k3 c3]) (fun iv _ => cs.length - (intOf iv).toNat)
    case atStart => exact ⟨0, Nat.zero_le _, rfl, fun j h => by omega, HK, HW⟩
    case round =>
      clear HK HW
      obtain ⟨i, hi, rfl, HD, HK, HW⟩ := hrel
      by_cases hlt : i < cs.length
      · obtain ⟨ad, e1, hb, p0⟩ := (HC.out.below HW.out).at_ hlt
        subst e1
        have hi1 : (i : Int) < (cs.length : Int) := by omega
        have hab := fun w => water_above cs[i] w (HCS.out _ (List.getElem_mem hlt))
        obtain ⟨ev, HEV⟩ : ∃ ev, Hid (aboveErr cs[i] = ev) := ⟨_, hide rfl⟩
        rw [HEV.out] at hab
        have hge : cs.getD i [] = cs[i] := by simp [List.getD, List.getElem?_eq_getElem hlt]
        by_cases h0 : ev = 0
        · subst h0
          have HNX : Hid (∀ j, j < i + 1 → aboveErr (cs.getD j []) = 0) := by
            intro m hm
            rcases Nat.lt_or_ge m i with h3 | h3
            · exact HD.out m h3
            · obtain rfl : m = i := by omega
              rw [hge]; exact HEV.out
          clear hge
          go_wp2_with fail
          refine (hab _).mono ?_
          rintro e WN ⟨rfl, hbB⟩
          try clear r0 r1 r2 r3 rL
          have HK_ := hide (HK.out.below hbB HK.out.lt)
          have HW_ := hide (ext HW.out hbB)
          clear HK HW
          have HK := HK_
          have HW := HW_
          clear HK_ HW_
          clear hbB
          have r0 := HK.out.cell 0
          have r1 := HK.out.cell 1
          have r2 := HK.out.cell 2
          have r3 := HK.out.cell 3
          have rL := HK.out.lt
          simp at r0 r1 r2 r3
          go_wp2_with fail
          go_round
          case rel => exact ⟨i + 1, by omega, by go_num, HNX, HK, HW⟩
          case measure => simp [intOf]; omega
        · have hI2 : (ev != 0) = true := by rw [bne_iff_ne]; exact h0
          have HF : Hid (r = ev) := hide (by
            have h := firstErr_at hlt (f := fun i => aboveErr (cs.getD i [])) (fun j hj => HD.out j hj) (by rw [hge, HEV.out]; exact h0)
            rw [← HR2.out, h, hge, HEV.out])
          clear h0 hge
          go_wp2_with fail
          refine (hab _).mono ?_
          rintro e WN ⟨rfl, hbB⟩
          try clear r0 r1 r2 r3 rL
          have HK_ := hide (HK.out.below hbB HK.out.lt)
          have HW_ := hide (ext HW.out hbB)
          clear HK HW
          have HK := HK_
          have HW := HW_
          clear HK_ HW_
          clear hbB
          have r0 := HK.out.cell 0
          have r1 := HK.out.cell 1
          have r2 := HK.out.cell 2
          have r3 := HK.out.cell 3
          have rL := HK.out.lt
          simp at r0 r1 r2 r3
          go_wp2_with fail
          go_ret
          exact ⟨ret_i64' HF.out, HW.out⟩
      · obtain rfl : i = cs.length := by omega
        have HF : Hid (r = 0) := hide (by rw [← HR2.out]; exact firstErr_all.2 HD.out)
        go_wp2_with fail
        go_ret
        exact ⟨ret_i64' HF.out, HW.out⟩
  · have HF : Hid (r = 1) := hide (by have := HR.out; rw [if_pos (by have := HK1.out; omega)] at this; exact this.symm)
    have hI : ((cs.length : Int) != (k1 : Int)) = true := by rw [bne_iff_ne]; omega
    clear HR
    go_enter Tryz.func78, Tryz.ntmps78
    go_wp2_with fail
    go_ret
    exact ⟨ret_i64' HF.out, HW.out⟩
set_option maxRecDepth 100000 in
set_option maxHeartbeats 8000000 in
theorem water_asked (vn vc : Value) (n : Net) (cs : List (List UInt8)) (w : World) (hn : NetIs w vn n) (hc : NodesIs w vc cs) :
    Calls Tryz.prog 34 #[vn, vc] w (RetB w (.int .i64 (askErr n cs))) := by
  have h1 := fun w' (h : Below w.heap.size w w') => water_check vn n w' (hn.below h)
  have h2 := fun w' (h : Below w.heap.size w w') => water_checkcond vn vc n cs w' (hn.below h) (hc.below h)
  obtain ⟨r, HR⟩ : ∃ r, Hid (askErr n cs = r) := ⟨_, hide rfl⟩
  rw [HR.out]
  unfold askErr at HR
  obtain ⟨x, HX⟩ : ∃ x, Hid (n.err = x) := ⟨_, hide rfl⟩
  obtain ⟨y, HY⟩ : ∃ y, Hid (condErr n cs = y) := ⟨_, hide rfl⟩
  rw [HX.out, HY.out] at HR
  rw [HX.out] at h1
  rw [HY.out] at h2
  obtain ⟨A0, k0, c0, A1, k1, c1, A2, k2, c2, A3, k3, c3, rfl, hn0, hn1, hn2, hn3⟩ := hn
  have HW := hide (ext_alloc w (.cells #[.slice A0 k0 c0, .slice A1 k1 c1, .slice A2 k2 c2, .slice A3 k3 c3] 26))
  have HK := hide (Blk.new w 26 #[.slice A0 k0 c0, .slice A1 k1 c1, .slice A2 k2 c2, .slice A3 k3 c3])
  clear hn0 hn1 hn2 hn3 hc
  have r0 := HK.out.cell 0
  have r1 := HK.out.cell 1
  have r2 := HK.out.cell 2
  have r3 := HK.out.cell 3
  have rL := HK.out.lt
  simp at r0 r1 r2 r3
  by_cases h0 : x = 0
  · have HF : Hid (r = y) := hide (by have := HR.out; rw [if_neg (by rw [h0]; decide)] at this; exact this.symm)
    subst h0
    clear HR
    go_enter Tryz.func34, Tryz.ntmps34
    go_wp2_with fail
    refine (h1 _ HW.out).mono ?_
    rintro e WN ⟨rfl, hbB⟩
    try clear r0 r1 r2 r3 rL
    have HK_ := hide (HK.out.below hbB HK.out.lt)
    have HW_ := hide (ext HW.out hbB)
    clear HK HW
    have HK := HK_
    have HW := HW_
    clear HK_ HW_
    clear hbB
    have r0 := HK.out.cell 0
    have r1 := HK.out.cell 1
    have r2 := HK.out.cell 2
    have r3 := HK.out.cell 3
    have rL := HK.out.lt
    simp at r0 r1 r2 r3
    clear h1
    go_wp2_with fail
    refine (h2 _ HW.out).mono ?_
    rintro e WN ⟨rfl, hbB⟩
    try clear r0 r1 r2 r3 rL
    have HK_ := hide (HK.out.below hbB HK.out.lt)
    have HW_ := hide (ext HW.out hbB)
    clear HK HW
    have HK := HK_
    have HW := HW_
    clear HK_ HW_
    clear hbB
    have r0 := HK.out.cell 0
    have r1 := HK.out.cell 1
    have r2 := HK.out.cell 2
    have r3 := HK.out.cell 3
    have rL := HK.out.lt
    simp at r0 r1 r2 r3
    clear h2
    go_wp2_with fail
    go_ret
    exact ⟨ret_i64' HF.out, HW.out⟩
  · have hI : (x != 0) = true := by rw [bne_iff_ne]; exact h0
    have HF : Hid (r = x) := hide (by have := HR.out; rw [if_pos h0] at this; exact this.symm)
    clear HR h0
    go_enter Tryz.func34, Tryz.ntmps34
    go_wp2_with fail
    refine (h1 _ HW.out).mono ?_
    rintro e WN ⟨rfl, hbB⟩
    try clear r0 r1 r2 r3 rL
    have HK_ := hide (HK.out.below hbB HK.out.lt)
    have HW_ := hide (ext HW.out hbB)
    clear HK HW
    have HK := HK_
    have HW := HW_
    clear HK_ HW_
    clear hbB
    have r0 := HK.out.cell 0
    have r1 := HK.out.cell 1
    have r2 := HK.out.cell 2
    have r3 := HK.out.cell 3
    have rL := HK.out.lt
    simp at r0 r1 r2 r3
    clear h1 h2
    go_wp2_with fail
    go_ret
    exact ⟨ret_i64' HF.out, HW.out⟩
def RetAll (N : Nat) (w : World) (e : Ending) (w' : World) : Prop := ∃ v, e = .returned v ∧ BoolsIs w' v (List.replicate N true) ∧ Below w.heap.size w w'
def WhoR (N g : Nat) (w : World) (nb : Array Value) (iv : Value) (wr : World) : Prop :=
  ∃ i : Nat, i ≤ N ∧ iv = .int .i64 i ∧ Hid (BolIs wr g (List.replicate i true ++ List.replicate (N - i) false) []) ∧ Hid (Blk wr w.heap.size 26 nb) ∧ Hid (Below w.heap.size w wr)
theorem who_set {N i : Nat} (hi : i < N) : (List.replicate i true ++ List.replicate (N - i) false).set i true = List.replicate (i + 1) true ++ List.replicate (N - (i + 1)) false := by
  rw [List.set_append_right _ _ (by simp)]
  rw [show N - i = (N - (i + 1)) + 1 by omega, List.replicate_succ, List.length_replicate, Nat.sub_self, List.set_cons_zero, List.replicate_succ']
  simp
set_option maxRecDepth 100000 in
set_option maxHeartbeats 8000000 in
theorem water_whole (vn : Value) (n : Net) (w : World) (hn : NetIs w vn n) : Calls Tryz.prog 43 #[vn] w (RetAll n.nodes.length w) := by
  obtain ⟨A0, k0, c0, A1, k1, c1, A2, k2, c2, A3, k3, c3, rfl, hn0, hn1, hn2, hn3⟩ := hn
  have hk0 : k0 = n.nodes.length := by obtain ⟨A', c', e, _⟩ := hn0; injection e
  have hb0 : k0 ≤ 1000 := by obtain ⟨A', c', e, _, _, h6, _⟩ := hn0; omega
  have HK0 := hide hk0
  have HW := hide (ext_alloc w (.cells #[.slice A0 k0 c0, .slice A1 k1 c1, .slice A2 k2 c2, .slice A3 k3 c3] 26))
  have HK := hide (Blk.new w 26 #[.slice A0 k0 c0, .slice A1 k1 c1, .slice A2 k2 c2, .slice A3 k3 c3])
  have hmk := fun w => makeBool .i64 k0 (by omega) w
  clear hn0 hn1 hn2 hn3 hk0
  have r0 := HK.out.cell 0
  have r1 := HK.out.cell 1
  have r2 := HK.out.cell 2
  have r3 := HK.out.cell 3
  have rL := HK.out.lt
  simp at r0 r1 r2 r3
  go_enter Tryz.func43, Tryz.ntmps43
  go_wp2_with fail
  clear hmk r0 r1 r2 r3 rL
  have hx := ext_alloc (w.alloc (.cells #[.slice A0 k0 c0, .slice A1 k1 c1, .slice A2 k2 c2, .slice A3 k3 c3] 26)) (.cells (bools (List.replicate k0 false)).toArray 4)
  have hbm : BolIs ((w.alloc (.cells #[.slice A0 k0 c0, .slice A1 k1 c1, .slice A2 k2 c2, .slice A3 k3 c3] 26)).alloc (.cells (bools (List.replicate k0 false)).toArray 4)) (w.heap.size + 1) (List.replicate 0 true ++ List.replicate (k0 - 0) false) [] := by
    unfold BolIs
    rw [List.append_nil]
    have h := Blk.new (w.alloc (.cells #[.slice A0 k0 c0, .slice A1 k1 c1, .slice A2 k2 c2, .slice A3 k3 c3] 26)) 4 (bools (List.replicate k0 false)).toArray
    simp only [World.size_alloc] at h
    exact h
  have HBM := hide hbm
  clear hbm
  have HK_ := hide (HK.out.below hx HK.out.lt)
  have HW_ := hide (ext HW.out hx)
  clear HK HW
  have HK := HK_
  have HW := HW_
  clear HK_ HW_
  clear hx
  generalize (w.alloc (.cells #[.slice A0 k0 c0, .slice A1 k1 c1, .slice A2 k2 c2, .slice A3 k3 c3] 26)).alloc (.cells (bools (List.replicate k0 false)).toArray 4) = WM at HK HW HBM ⊢
  go_loopw [11] (WhoR k0 (w.heap.size + 1) w #[.slice A0 k0 c0, .slice A1 k1 c1, .slice A2 k2 c2, .slice A3 k3 c3]) (fun iv _ => k0 - (intOf iv).toNat)
  case atStart => exact ⟨0, Nat.zero_le _, rfl, HBM, HK, HW⟩
  case round =>
    clear HK HW HBM
    obtain ⟨i, hi, rfl, HBM, HK, HW⟩ := hrel
    by_cases hlt : i < k0
    · have hi1 : (i : Int) < (k0 : Int) := by omega
      have hal : i < (List.replicate i true ++ List.replicate (k0 - i) false).length := by simp; omega
      have c1 := HBM.out.cell hal
      have f1 := HBM.out.frozen i
      have l1 := HBM.out.lt
      have HB2 := HBM.out.set_ hal true
      rw [who_set hlt] at HB2
      have HB3 := hide HB2
      generalize (List.replicate i true ++ List.replicate (k0 - i) false)[i] = x at c1
      clear HB2 hal
      have hgn : w.heap.size ≠ w.heap.size + 1 := by omega
      go_wp2_with fail
      go_round
      case rel => exact ⟨i + 1, by omega, by go_num, HB3, HK.out.far hgn _, HW.out.setCell (by simp only; omega) _⟩
      case measure => simp [intOf]; omega
    · obtain rfl : i = k0 := by omega
      go_wp2_with fail
      go_ret
      refine ⟨.slice (some ⟨w.heap.size + 1, 0, none⟩) i i, rfl, ⟨some ⟨w.heap.size + 1, 0, none⟩, i, by rw [List.length_replicate, HK0.out], by rw [List.length_replicate, HK0.out]; exact Nat.le_refl _, by unfold maxLen; omega, ?_⟩, HW.out⟩
      have h := HBM.out.reads
      rw [Nat.sub_self, List.replicate_zero, List.append_nil] at h
      rw [← HK0.out]
      exact h
end Go.Proofs.YtdecgcdkaaiglaaGreat
namespace Go.Proofs.YtdecgcdkaaiglaaGreat
open Go.RowKit Go.Deep
attribute [local go_sem ↓] Go.wp_at_zero Go.wp_at_succ
theorem Net.err_zero {n : Net} (h : n.err = 0) : n.P5 ∧ ∀ k, k < n.nodes.length → Joined n.pipes.length n.pf n.pt (Net.on n.heads) k := by
  have h1 : n.P1 := by
    refine ⟨fun h2 => ?_, fun h2 => ?_⟩
    · rw [Net.err_many h2] at h; cases h
    · rw [Net.err_none h2] at h; cases h
  have hfirst : ∀ {m : Nat} {f : Nat → Int}, firstErr m f ≠ 0 → ∃ k, k < m ∧ (∀ j, j < k → f j = 0) ∧ f k ≠ 0 := by
    intro m f
    induction m with
    | zero => intro h; exact absurd rfl h
    | succ m ih =>
      intro h
      unfold firstErr at h
      by_cases h0 : firstErr m f = 0
      · rw [if_pos h0] at h
        exact ⟨m, by omega, firstErr_all.1 h0, h⟩
      · obtain ⟨k, hk, h2, h3⟩ := ih h0
        exact ⟨k, by omega, h2, h3⟩
  have h2 : n.P2 := ⟨h1, Classical.byContradiction fun hne => by
    obtain ⟨k, hk, h3, h4⟩ := hfirst hne
    have := Net.err_node h1 hk h3 rfl h4
    exact h4 (this.symm.trans h)⟩
  have h48 : ¬ 48 < n.pipes.length := fun h3 => by rw [Net.err_pipes h2 h3] at h; cases h
  have h3 : n.P3 := ⟨h2, h48, Classical.byContradiction fun hne => by
    obtain ⟨k, hk, h3, h4⟩ := hfirst hne
    have := Net.err_pipe h2 h48 hk h3 rfl h4
    exact h4 (this.symm.trans h)⟩
  have h4 : n.P4 := ⟨h3, Classical.byContradiction fun hne => by
    have := Net.err_heads h3 rfl hne
    exact hne (this.symm.trans h)⟩
  have h5 : n.P5 := ⟨h4, Classical.byContradiction fun hne => by
    obtain ⟨k, hk, h3, h4'⟩ := hfirst hne
    have := Net.err_well h4 hk h3 rfl h4'
    exact h4' (this.symm.trans h)⟩
  refine ⟨h5, Classical.byContradiction fun hne => ?_⟩
  have := (Net.err_end h5).1 hne
  rw [h] at this; cases this
theorem short_dz {q : Rat} (h : Short 12 q) : Dz 12 q := Short.sz h
/-- levels whose values are numbers -/
def LevOk (l : List Level) : Prop := ∀ v ∈ l, numErr v.value = 0
theorem LevOk.text {l : List Level} (h : LevOk l) (k : Nat) : levelText l (k : Int) = fracText ((Net.at_ l k).getD 0) ∧ (l.find? (fun v => v.node == (k : Int))).isSome = (Net.at_ l k).isSome ∧ Short 12 ((Net.at_ l k).getD 0) := by
  unfold levelText Net.at_
  cases hf : l.find? (fun v => v.node == (k : Int)) with
  | none => exact ⟨(fracText_zero_iff.2 rfl).symm, rfl, by have := Dz.short (Dz.zero 1) (show 1 < 12 by omega); simpa using this⟩
  | some v =>
    obtain ⟨q, h1, h2, h3, h4⟩ := numErr_ok (h v (List.mem_of_find?_eq_some hf))
    refine ⟨?_, rfl, ?_⟩
    · simp only [Option.map_some, Option.getD_some]
      rw [h3]; exact h4
    · simp only [Option.map_some, Option.getD_some]
      rw [h3]; exact h2
theorem Net.P4.levs {n : Net} (h : n.P4) : LevOk n.heads := by
  intro v hv
  obtain ⟨i, hi, rfl⟩ := List.mem_iff_getElem.1 hv
  exact (Net.level_ok (firstErr_all.1 h.2 i hi) hi).2.2.1
theorem Net.P5.levs {n : Net} (h : n.P5) : LevOk n.wells := by
  intro v hv
  obtain ⟨i, hi, rfl⟩ := List.mem_iff_getElem.1 hv
  exact (Net.level_ok (Net.wellErr_ok (firstErr_all.1 h.2 i hi)).1 hi).2.2.1
theorem at_on {l : List Level} {k : Nat} (h : Net.on l k) : Net.at_ l k ≠ none := by
  obtain ⟨v, hv, e⟩ := h
  unfold Net.at_
  intro h2
  have h3 := (Net.find_isSome (l := l) (z := (k : Int))).2 (List.mem_map.2 ⟨v, hv, e⟩)
  cases hf : l.find? (fun v => v.node == (k : Int)) with
  | none => rw [hf] at h3; cases h3
  | some v => rw [hf] at h2; cases h2
theorem cond_get {n : Net} {cs : List (List UInt8)} (h : condErr n cs = 0) : cs.length = n.pipes.length ∧ ∀ i (hi : i < cs.length), cs[i] = fracText (numOf (cs.getD i [])) ∧ Short 12 (numOf (cs.getD i [])) ∧ 0 < numOf (cs.getD i []) := by
  unfold condErr at h
  by_cases hl : cs.length = n.pipes.length
  · rw [if_neg (by omega)] at h
    refine ⟨hl, fun i hi => ?_⟩
    have h1 := firstErr_all.1 h i hi
    have hge : cs.getD i [] = cs[i] := by simp [List.getD, List.getElem?_eq_getElem hi]
    rw [hge] at h1 ⊢
    have hne : numErr cs[i] = 0 := by
      unfold aboveErr at h1
      by_cases h0 : numErr cs[i] = 0
      · exact h0
      · rw [if_pos h0] at h1; exact absurd h1 h0
    obtain ⟨q, e1, e2, e3, e4⟩ := numErr_ok hne
    obtain ⟨q', f1, f2, f3⟩ := aboveErr_ok h1
    have : q = q' := fracText_inj (e4.symm.trans f1)
    subst this
    rw [e3]
    exact ⟨e4, e2, f3⟩
  · rw [if_pos (by omega)] at h; cases h
def condOf (cs : List (List UInt8)) : Nat → Rat := fun i => numOf (cs.getD i [])
def allOf (N : Nat) : Nat → Bool := fun k => (List.replicate N true).getD k false
theorem Net.piped {n : Net} (h : n.P3) {c : Nat → Rat} (hc : ∀ i, i < n.pipes.length → 0 < c i) : Piped n.nodes.length n.pipes.length n.pf n.pt c := by
  have he := h.ends
  refine ⟨fun i hi => (he i hi).2.1, fun i hi => (he i hi).2.2.2, fun i hi e => ?_, hc⟩
  have h0 := (Net.pipe_ends (firstErr_all.1 h.2.2 i hi)).2.2.2.2.1
  have e1 : n.pipes.getD i default = n.pipes[i] := by simp [List.getD, List.getElem?_eq_getElem hi]
  rw [e1, (he i hi).1, (he i hi).2.2.1, e] at h0
  exact h0 rfl
theorem given_of {n : Net} {cs : List (List UInt8)} (h0 : n.err = 0) (hc : condErr n cs = 0) (hN : n.nodes.length ≤ 6) (hp : n.pipes.length ≤ 9) :
    Given n.nodes.length n.pipes.length n.pf n.pt (condOf cs) (Net.at_ n.heads) (fun k => (Net.at_ n.wells k).getD 0) (allOf n.nodes.length) := by
  obtain ⟨h5, hj⟩ := Net.err_zero h0
  obtain ⟨hl, hcs⟩ := cond_get hc
  exact {
    piped := Net.piped h5.1.1 (fun i hi => (hcs i (by omega)).2.2)
    tied := fun k hk _ => (hj k hk).mono fun j hj => ⟨Net.on_lt h5.1 j hj, at_on hj⟩
    cd := fun i hi => short_dz (hcs i (by omega)).2.1
    fd := fun k _ => short_dz (h5.1.levs.text k).2.2
    wd := fun k _ => short_dz (h5.levs.text k).2.2
    hN := hN
    hp := hp }
/-- the heads of a net, for conductances -/
def NetHeads (n : Net) (cs : List (List UInt8)) (h : Nat → Rat) : Prop := IsHeads n.nodes.length n.pipes.length n.pf n.pt (condOf cs) (Net.at_ n.heads) (fun k => (Net.at_ n.wells k).getD 0) (allOf n.nodes.length) h
def RetHeads (n : Net) (cs : List (List UInt8)) (w : World) (e : Ending) (w' : World) : Prop :=
  Below w.heap.size w w' ∧ ((askErr n cs ≠ 0 ∧ e = .returned (.tuple #[.slice none 0 0, .int .i64 (askErr n cs)])) ∨
    (askErr n cs = 0 ∧ ∃ (A : Option Addr) (cap : Nat) (h : Nat → Rat), e = .returned (.tuple #[.slice A n.nodes.length cap, .int .i64 0]) ∧ cap = n.nodes.length ∧ NetHeads n cs h ∧ (∀ k, k < n.nodes.length → Dz 13000 (h k)) ∧
      Reads w' w'.heap.size 1 A n.nodes.length (row n.nodes.length fun k => str (fracText (h k)))))
set_option maxRecDepth 100000 in
set_option maxHeartbeats 8000000 in
theorem water_Heads (vn vc : Value) (n : Net) (cs : List (List UInt8)) (w : World) (hn : NetIs w vn n) (hc : NodesIs w vc cs) (hsz : n.err = 0 → n.nodes.length ≤ 6 ∧ n.pipes.length ≤ 9) :
    Calls Tryz.prog 14 #[vn, vc] w (RetHeads n cs w) := by
  have h1 := fun w' (h : Below w.heap.size w w') => water_asked vn vc n cs w' (hn.below h) (hc.below h)
  have h2 := fun w' (h : Below w.heap.size w w') => water_whole vn n w' (hn.below h)
  have HNET := hide hn
  have HCN := hide hc
  obtain ⟨x, HX⟩ : ∃ x, Hid (askErr n cs = x) := ⟨_, hide rfl⟩
  rw [HX.out] at h1
  unfold RetHeads
  rw [HX.out]
  obtain ⟨A0, k0, c0, A1, k1, c1, A2, k2, c2, A3, k3, c3, rfl, hn0, hn1, hn2, hn3⟩ := hn
  have HN2 := hide hn2
  have HN3 := hide hn3
  have HW := hide (ext_alloc w (.cells #[.slice A0 k0 c0, .slice A1 k1 c1, .slice A2 k2 c2, .slice A3 k3 c3] 26))
  have HK := hide (Blk.new w 26 #[.slice A0 k0 c0, .slice A1 k1 c1, .slice A2 k2 c2, .slice A3 k3 c3])
  clear hn0 hn1 hn2 hn3 hc
  have r0 := HK.out.cell 0
  have r1 := HK.out.cell 1
  have r2 := HK.out.cell 2
  have r3 := HK.out.cell 3
  have rL := HK.out.lt
  simp at r0 r1 r2 r3
  by_cases h0 : x = 0
  · have hz : n.err = 0 ∧ condErr n cs = 0 := by
      have h := HX.out
      unfold askErr at h
      by_cases h3 : n.err = 0
      · rw [if_neg (by rw [h3]; decide)] at h; exact ⟨h3, by rw [h]; exact h0⟩
      · rw [if_pos h3] at h; exact absurd (h.trans h0) h3
    have HG := hide (given_of hz.1 hz.2 (hsz hz.1).1 (hsz hz.1).2)
    have HP5 := hide (Net.err_zero hz.1).1
    have HCG := hide (cond_get hz.2)
    clear hz hsz
    have h3 := fun w' vb (hB : Below w.heap.size w w') (hb : BoolsIs w' vb (List.replicate n.nodes.length true)) => water_heads (.agg #[.slice A0 k0 c0, .slice A1 k1 c1, .slice A2 k2 c2, .slice A3 k3 c3]) vc (.slice A2 k2 c2) (.slice A3 k3 c3) vb n cs n.heads n.wells (List.replicate n.nodes.length true) (condOf cs) (Net.at_ n.heads) (fun k => (Net.at_ n.wells k).getD 0) w' (HNET.out.below hB) (HCN.out.below hB) (HN2.out.below hB) (HN3.out.below hB) hb
      HCG.out.1 (fun i hi => (HCG.out.2 i hi).1) (fun k _ => ⟨(HP5.out.1.levs.text k).1, (HP5.out.1.levs.text k).2.1⟩) (fun k _ => (HP5.out.levs.text k).1) (by simp) HP5.out.1.1.ends HG.out
    subst h0
    have H3 := hide h3
    clear h3
    go_enter Tryz.func14, Tryz.ntmps14
    go_wp2_with fail
    refine (h1 _ HW.out).mono ?_
    rintro e WN ⟨rfl, hbB⟩
    try clear r0 r1 r2 r3 rL
    have HK_ := hide (HK.out.below hbB HK.out.lt)
    have HW_ := hide (ext HW.out hbB)
    clear HK HW
    have HK := HK_
    have HW := HW_
    clear HK_ HW_
    clear hbB
    have r0 := HK.out.cell 0
    have r1 := HK.out.cell 1
    have r2 := HK.out.cell 2
    have r3 := HK.out.cell 3
    have rL := HK.out.lt
    simp at r0 r1 r2 r3
    clear h1
    go_wp2_with fail
    (first | (go_region_held3 (fun w' => Hid (Below WN.heap.size WN w') ∧ w'.cell? ⟨w.heap.size, 0, none⟩ = some (.slice A0 k0 c0) ∧ w'.cell? ⟨w.heap.size, 1, none⟩ = some (.slice A1 k1 c1) ∧ w'.cell? ⟨w.heap.size, 2, none⟩ = some (.slice A2 k2 c2) ∧ w'.cell? ⟨w.heap.size, 3, none⟩ = some (.slice A3 k3 c3) ∧ w.heap.size < w'.heap.size)
      (first
        | (with_reducible refine and_keep ?_ (fun hB => ⟨cellB hB rL r0, cellB hB rL r1, cellB hB rL r2, cellB hB rL r3, sizeB hB rL⟩); with_reducible exact hid_drawn _)
        | (go_split_ands; with_reducible refine and_keep ?_ (fun hB => ⟨cellB hB rL r0, cellB hB rL r1, cellB hB rL r2, cellB hB rL r3, sizeB hB rL⟩); first | with_reducible exact hid_below (by assumption) (by assumption) | with_reducible exact hid_alloc (by assumption) | with_reducible exact hid_alloc_drawn _ _))
      (first
        | (go_at_call 43; go_split_ands; refine (h2 _ (ext HW.out (unhide (by assumption : Hid (Below WN.heap.size WN _))))).mono ?_; rintro e w1 ⟨v1, rfl, hv1, hb1⟩; have HV := hide hv1; clear hv1)
        | (go_at_call 36; go_split_ands; refine (H3.out _ _ (ext HW.out (unhide (by assumption : Hid (Below WN.heap.size WN _)))) HV.out).mono ?_; rintro e w2 ⟨A9, cap9, h9, rfl, hcap, hIs, hdz, hrd, hb2⟩; have HIS := hide hIs; have HDZ := hide hdz; have HRD := hide hrd; have HCAP := hide hcap; clear hIs hdz hrd hcap))) | fail "region")
    go_split_ands
    have HBZ := unhide (by assumption : Hid (Below WN.heap.size WN _))
    obtain ⟨w4, hWX, HBY⟩ := (⟨_, rfl, HBZ⟩ : ∃ X, X = _ ∧ Below WN.heap.size WN X)
    rw [← hWX] at HRD ⊢
    clear hWX HBZ
    try clear r0 r1 r2 r3 rL
    have HK_ := hide (HK.out.below HBY HK.out.lt)
    have HW_ := hide (ext HW.out HBY)
    clear HK HW
    have HK := HK_
    have HW := HW_
    clear HK_ HW_
    clear HBY
    have r0 := HK.out.cell 0
    have r1 := HK.out.cell 1
    have r2 := HK.out.cell 2
    have r3 := HK.out.cell 3
    have rL := HK.out.lt
    simp at r0 r1 r2 r3
    go_wp2_with fail
    go_ret2
    exact ⟨HW.out, .inr ⟨trivial, A9, cap9, h9, rfl, HCAP.out, HIS.out, HDZ.out, HRD.out⟩⟩
  · have hI : (x != 0) = true := by rw [bne_iff_ne]; exact h0
    have HNE := hide h0
    clear h0 h2
    go_enter Tryz.func14, Tryz.ntmps14
    go_wp2_with fail
    refine (h1 _ HW.out).mono ?_
    rintro e WN ⟨rfl, hbB⟩
    try clear r0 r1 r2 r3 rL
    have HK_ := hide (HK.out.below hbB HK.out.lt)
    have HW_ := hide (ext HW.out hbB)
    clear HK HW
    have HK := HK_
    have HW := HW_
    clear HK_ HW_
    clear hbB
    have r0 := HK.out.cell 0
    have r1 := HK.out.cell 1
    have r2 := HK.out.cell 2
    have r3 := HK.out.cell 3
    have rL := HK.out.lt
    simp at r0 r1 r2 r3
    clear h1
    go_wp2_with fail
    go_ret2
    exact ⟨HW.out, .inl ⟨HNE.out, rfl⟩⟩
end Go.Proofs.YtdecgcdkaaiglaaGreat
namespace Go.Proofs.YtdecgcdkaaiglaaGreat
/-- rows of whole numbers within B -/
def Whole (m : Nat) (A : Tab) (B : Nat) : Prop := ∀ i, i < m → ∀ c, c ≤ m → ∃ z : Int, A i c = (z : Rat) ∧ z.natAbs ≤ B
/-- the bound of the solution -/
def bigG : Nat → Nat → Nat
  | 0, _ => 1
  | m + 1, B => (m + 1) * B * bigG m (2 * B * B)
theorem bigG_mono : ∀ (m : Nat) {B C : Nat}, B ≤ C → bigG m B ≤ bigG m C
  | 0, _, _, _ => Nat.le_refl _
  | m + 1, B, C, h => by
    unfold bigG
    exact Nat.mul_le_mul (Nat.mul_le_mul (Nat.le_refl _) h) (bigG_mono m (Nat.mul_le_mul (Nat.mul_le_mul (Nat.le_refl _) h) h))
theorem bigG_le : ∀ (m e : Nat), m ≤ 9 → bigG m (10 ^ e) ≤ 10 ^ ((e + 1) * (2 ^ m - 1))
  | 0, e, _ => by simp [bigG]
  | m + 1, e, h => by
    unfold bigG
    have h1 : 2 * 10 ^ e * 10 ^ e ≤ 10 ^ (2 * e + 1) := by
      rw [show 2 * e + 1 = e + e + 1 by omega, Nat.pow_succ, Nat.pow_add]
      generalize 10 ^ e = x
      rw [Nat.mul_assoc, Nat.mul_comm 2]
      exact Nat.mul_le_mul (Nat.le_refl _) (by omega)
    have h2 := Nat.le_trans (bigG_mono m h1) (bigG_le m (2 * e + 1) (by omega))
    have h3 : (m + 1) * 10 ^ e ≤ 10 ^ (e + 1) := by
      rw [Nat.pow_succ, Nat.mul_comm]
      exact Nat.mul_le_mul (Nat.le_refl _) (by omega)
    refine Nat.le_trans (Nat.mul_le_mul h3 h2) ?_
    rw [← Nat.pow_add]
    refine Nat.pow_le_pow_right (by omega) ?_
    have h4 : 1 ≤ 2 ^ m := Nat.one_le_two_pow
    have h5 : 2 ^ (m + 1) - 1 = 1 + 2 * (2 ^ m - 1) := by rw [Nat.pow_succ]; omega
    rw [h5, Nat.mul_add, Nat.mul_one, show 2 * e + 1 + 1 = (e + 1) * 2 by omega, Nat.mul_assoc]
    omega
theorem last_pivot {m : Nat} {A : Tab} (h : Only (m + 1) A) : ∃ p, p < m + 1 ∧ A p m ≠ 0 := by
  apply Classical.byContradiction
  intro hno
  have h0 : ∀ p, p < m + 1 → A p m = 0 := fun p hp => Classical.byContradiction fun h3 => hno ⟨p, hp, h3⟩
  have := h (fun c => if c = m then 1 else 0) (fun i hi => by
    rw [sumTo_one (j := m) (by omega)]
    · rw [h0 i hi]; grind
    · intro c hc h1; rw [if_neg h1]; grind) m (by omega)
  rw [if_pos rfl] at this
  exact absurd this (by grind)
theorem Solves.swap {m k p : Nat} {A : Tab} {x : Nat → Rat} (hx : Solves m A x) (hk : k < m) (hp : p < m) : Solves m (swapped A k p) x := by
  intro i hi
  unfold swapped
  by_cases h1 : i = k
  · simp only [h1, if_true]; exact hx p hp
  · by_cases h2 : i = p
    · by_cases h3 : p = k
      · exact absurd (h2.trans h3) h1
      · simp only [h2, h3, if_true, if_false]; exact hx k hk
    · simp only [h1, h2, if_false]; exact hx i hi
theorem Whole.swap {m k p B : Nat} {A : Tab} (h : Whole m A B) (hk : k < m) (hp : p < m) : Whole m (swapped A k p) B := by
  intro i hi c hc
  unfold swapped
  by_cases h1 : i = k
  · simp only [h1, if_true]; exact h p hp c hc
  · by_cases h2 : i = p
    · by_cases h3 : p = k
      · exact absurd (h2.trans h3) h1
      · simp only [h2, h3, if_true, if_false]; exact h k hk c hc
    · simp only [h1, h2, if_false]; exact h i hi c hc
/-- one unknown less -/
def less1 (A : Tab) (m : Nat) : Tab := fun i c => A m m * A i (if c = m then m + 1 else c) - A i m * A m (if c = m then m + 1 else c)
theorem less1_sum {A : Tab} {m : Nat} (x : Nat → Rat) (i : Nat) : sumTo m (fun c => less1 A m i c * x c) = A m m * sumTo m (fun c => A i c * x c) - A i m * sumTo m (fun c => A m c * x c) := by
  rw [← sumTo_mul, ← sumTo_mul, ← sumTo_sub]
  apply sumTo_congr
  intro c hc
  unfold less1
  rw [if_neg (by omega)]
  grind
theorem less1_whole {m B : Nat} {A : Tab} (h : Whole (m + 1) A B) : Whole m (less1 A m) (2 * B * B) := by
  intro i hi c hc
  have hc' : (if c = m then m + 1 else c) ≤ m + 1 := by split <;> omega
  unfold less1
  generalize (if c = m then m + 1 else c) = d at hc'
  obtain ⟨z1, e1, b1⟩ := h m (by omega) m (by omega)
  obtain ⟨z2, e2, b2⟩ := h i (by omega) d hc'
  obtain ⟨z3, e3, b3⟩ := h i (by omega) m (by omega)
  obtain ⟨z4, e4, b4⟩ := h m (by omega) d hc'
  refine ⟨z1 * z2 - z3 * z4, by rw [e1, e2, e3, e4]; push_cast; rfl, ?_⟩
  have h1 := Nat.mul_le_mul b1 b2
  have h2 := Nat.mul_le_mul b3 b4
  rw [← Int.natAbs_mul] at h1 h2
  rw [Nat.mul_assoc]
  omega
theorem less1_only {m : Nat} {A : Tab} (h : Only (m + 1) A) (h0 : A m m ≠ 0) : Only m (less1 A m) := by
  intro y hy c hc
  have := h (fun c => if c = m then -(sumTo m (fun c => A m c * y c)) / A m m else y c) (fun i hi => by
    rw [sumTo_succ, if_pos rfl]
    have e : sumTo m (fun c => A i c * (if c = m then -(sumTo m (fun c => A m c * y c)) / A m m else y c)) = sumTo m (fun c => A i c * y c) := sumTo_congr fun k hk => by rw [if_neg (by omega)]
    rw [e]
    rcases Nat.lt_or_ge i m with h1 | h1
    · have h2 := hy i h1
      rw [less1_sum] at h2
      grind
    · obtain rfl : i = m := by omega
      grind) c (by omega)
  rw [if_neg (by omega)] at this
  exact this
theorem less1_solves {m : Nat} {A : Tab} {x : Nat → Rat} (h : Solves (m + 1) A x) : Solves m (less1 A m) x := by
  intro i hi
  rw [less1_sum]
  unfold less1
  rw [if_pos rfl]
  have h1 := h i (by omega)
  have h2 := h m (by omega)
  rw [sumTo_succ] at h1 h2
  grind
/-- the solution has a common denominator -/
theorem solved_common : ∀ (m B : Nat) (A : Tab) (x : Nat → Rat), 0 < B → Whole m A B → Only m A → Solves m A x → ∃ D : Int, D ≠ 0 ∧ D.natAbs ≤ bigG m B ∧ ∀ c, c < m → MulQ D (bigG m B) (x c)
  | 0, B, A, x, hB, hW, hO, hS => ⟨1, by decide, by simp [bigG], fun c hc => absurd hc (by omega)⟩
  | m + 1, B, A, x, hB, hW, hO, hS => by
    obtain ⟨p, hp, hpv⟩ := last_pivot hO
    have hO2 := hO.swapped (k := m) (p := p) (by omega) hp
    have hS2 := hS.swap (k := m) (p := p) (by omega) hp
    have hW2 := hW.swap (k := m) (p := p) (by omega) hp
    have h0 : swapped A m p m m ≠ 0 := by unfold swapped; rw [if_pos rfl]; exact hpv
    generalize swapped A m p = A at hO2 hS2 hW2 h0
    obtain ⟨D, d1, d2, d3⟩ := solved_common m (2 * B * B) (less1 A m) x (by
      rw [Nat.mul_assoc]; exact Nat.mul_pos (by omega) (Nat.mul_pos hB hB)) (less1_whole hW2) (less1_only hO2 h0) (less1_solves hS2)
    have hrow := hS2 m (by omega)
    rw [sumTo_succ] at hrow
    have hW3 := fun c (hc : c ≤ m + 1) => hW2 m (by omega) c hc
    unfold bigG
    generalize hG : bigG m (2 * B * B) = G at d2 d3
    obtain ⟨z, ez, bz⟩ := hW3 m (by omega)
    have hz : z ≠ 0 := by
      intro e; rw [e] at ez; exact h0 ez
    have hmul : B * G ≤ (m + 1) * B * G := by
      rw [Nat.mul_assoc]; exact Nat.le_mul_of_pos_left _ (by omega)
    refine ⟨D * z, Int.mul_ne_zero d1 hz, ?_, fun c hc => ?_⟩
    · rw [Int.natAbs_mul]
      refine Nat.le_trans (Nat.mul_le_mul d2 bz) ?_
      rw [Nat.mul_comm]; exact hmul
    · rcases Nat.lt_or_ge c m with h1 | h1
      · refine ((d3 c h1).scale z).mono (Nat.le_trans (Nat.mul_le_mul (Nat.le_refl _) bz) ?_)
        rw [Nat.mul_comm]; exact hmul
      · obtain rfl : c = m := by omega
        obtain ⟨y, ey, by_⟩ := hW3 (c + 1) (by omega)
        have hsum : MulQ D (c * (B * G)) (sumTo c (fun k => A c k * x k)) := MulQ.sum fun k hk => by
          obtain ⟨u, eu, bu⟩ := hW3 k (by omega)
          obtain ⟨v, ev, bv⟩ := d3 k hk
          refine ⟨u * v, by rw [eu]; push_cast; rw [← ev]; grind, ?_⟩
          rw [Int.natAbs_mul]; exact Nat.mul_le_mul bu bv
        have hy : MulQ D (B * G) ((y : Rat)) := ⟨y * D, by push_cast; rfl, by rw [Int.natAbs_mul]; exact Nat.mul_le_mul by_ d2⟩
        obtain ⟨t, et, bt⟩ := hy.sub hsum
        refine ⟨t, ?_, ?_⟩
        · push_cast
          rw [← et, ← ey, ← ez]
          grind
        · rw [Nat.mul_assoc, Nat.succ_mul]; omega
section
variable {N np : Nat} {pf pt : Nat → Nat} {c : Nat → Rat} {fx : Nat → Option Rat} {wl : Nat → Rat} {asked : Nat → Bool}
theorem extd_frees {h : Nat → Rat} (hh : IsHeads N np pf pt c fx wl asked h) {k : Nat} (hk : k < N) : extd fx asked (fun i => h ((frees (isFree fx asked) N).getD i 0)) k = h k := by
  by_cases hF : isFree fx asked k = true
  · rw [ext_free _ _ hF, frees_get _ hk hF]
  · rw [ext_out _ _ hF]
    have h1 := hh k hk
    unfold outOf
    cases hx : fx k with
    | some v => rw [hx] at h1; simp only at h1; rw [h1]; rfl
    | none =>
      rw [hx] at h1
      simp only at h1
      rw [if_neg (fun e => hF ((isFree_iff fx asked).2 ⟨hx, e⟩))] at h1
      rw [h1]; rfl
theorem heads_solve {h : Nat → Rat} (hp : Piped N np pf pt c) (hh : IsHeads N np pf pt c fx wl asked h) : Solves (rank (isFree fx asked) N) (tabAt pf pt c fx wl asked N np) (fun i => h ((frees (isFree fx asked) N).getD i 0)) := by
  rw [solves_iff_lin]
  intro i hi
  obtain ⟨m1, m2, m3⟩ := frees_mem _ hi
  rw [tabAt_lin pf pt c fx wl asked hp _ hi np (Nat.le_refl _)]
  rw [flowTo_congr (h := h) (fun j hj => ⟨extd_frees hh (hp.from_lt j hj), extd_frees hh (hp.to_lt j hj)⟩)]
  have h1 := hh _ m1
  have h2 := (isFree_iff fx asked).1 m2
  rw [h2.1] at h1
  simp only at h1
  rw [if_pos h2.2] at h1
  rw [h1]; grind
theorem held_solved {m X : Nat} {A : Tab} {x : Nat → Rat} (h : Held m A X X) (hO : Only m A) (hS : Solves m A x) : ∃ D : Int, D ≠ 0 ∧ D.natAbs ≤ bigG m (X + 1) ∧ ∀ c, c < m → MulQ D (bigG m (X + 1)) (x c) := by
  obtain ⟨M, s, h⟩ := h
  have hrow : ∀ (y : Nat → Rat) i, i < m → sumTo m (fun c => ((M i c : Int) : Rat) * y c) = (s i : Rat) * sumTo m (fun c => A i c * y c) := by
    intro y i hi
    rw [← sumTo_mul]
    apply sumTo_congr
    intro c hc
    rw [← ((h i hi).2.2 c (by omega)).1]; grind
  refine solved_common m (X + 1) (fun i c => ((M i c : Int) : Rat)) x (by omega) (fun i hi c hc => ⟨M i c, rfl, by have := ((h i hi).2.2 c hc).2; omega⟩) (fun y hy => hO y fun i hi => ?_) (fun i hi => ?_)
  · have h1 := hy i hi
    rw [hrow y i hi] at h1
    have := cast_ne (h i hi).1
    rcases Rat.mul_eq_zero.1 h1 with h2 | h2
    · exact absurd h2 this
    · exact h2
  · rw [hrow x i hi, hS i hi]
    show _ = ((M i m : Int) : Rat)
    rw [← ((h i hi).2.2 m (Nat.le_refl _)).1]; grind
variable (h : Given N np pf pt c fx wl asked)
include h
/-- the heads have a common denominator -/
theorem Given.common {v : Nat → Rat} (hh : IsHeads N np pf pt c fx wl asked v) : Common N v (201 * (2 ^ rank (isFree fx asked) N - 1) + 12 * N) := by
  have h1 := heads_solve h.piped hh
  have hZ := h.elim.1.2.2.1
  obtain ⟨X, x1, x2⟩ := hZ
  obtain ⟨D, d1, d2, d3⟩ := held_solved x2 (tab_only pf pt c fx wl asked h.piped h.tied) h1
  have hX : X + 1 ≤ 10 ^ 200 := by
    rw [show 200 * 2 ^ 0 = 200 by rfl] at x1
    have : (2 : Nat) ≤ 10 ^ 200 := Nat.le_trans (by omega : 2 ≤ 10 ^ 1) (Nat.pow_le_pow_right (by omega) (by omega))
    omega
  have hG := Nat.le_trans (bigG_mono _ hX) (bigG_le (rank (isFree fx asked) N) 200 (by have := h.rank_le; omega))
  have hC : Common (rank (isFree fx asked) N) (fun i => v ((frees (isFree fx asked) N).getD i 0)) (201 * (2 ^ rank (isFree fx asked) N - 1)) :=
    ⟨D, d1, Nat.le_trans d2 hG, fun k hk => (d3 k hk).mono hG⟩
  obtain ⟨T, t1, t2, t3⟩ := common_ext (fx := fx) (asked := asked) hC h.fd
  exact ⟨T, t1, t2, fun k hk => by
    have := t3 k hk
    rw [extd_frees hh hk] at this
    exact this⟩
end
end Go.Proofs.YtdecgcdkaaiglaaGreat
