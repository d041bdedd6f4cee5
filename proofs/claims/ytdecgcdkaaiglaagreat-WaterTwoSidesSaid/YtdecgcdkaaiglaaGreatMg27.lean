/- The walk of Whole: the conductance of a net between two nodes. · The walk of given: the error of numbers that are handed in for a net between two nodes. · atMost; texts in a block of the call's own; the plain law of WaterGrows. · The walk of Above: what heads say of the conductance of the whole. · Plain: what flows say of the conductance of the whole: sizes of the sums, the error of Below. · The walk of Below: what flows say of the conductance of the whole. · Plain: the net of one conductance a pipe with the heads 1 and 0; texts have a common denominator; what its own heads and flows say. · The walk of inside: do conductances lie between the pipes' bounds? · Memory and contracts that the walk of WaterTwoSides asks: pipes in a block of the call's own; a quotient; what Above and Below told. -/
import Derived.Below
import Derived.BigQuiet
import Derived.BigRegion
import Derived.Deep.AppendLies
import Derived.Deep.Cut
import Derived.Deep.CutBlock
import Derived.Deep.DeepCutAuto
import Derived.Deep.DeepMust
import Derived.Deep.DrawnRows
import Derived.Deep.Draws
import Derived.Deep.LoopGhost
import Derived.Deep.MidRow
import Derived.Deep.OwnRows
import Derived.Deep.Quiet
import Derived.Deep.QuietTactic
import Derived.Deep.RegionHeld3
import Derived.Deep.RegionLawGrows
import Derived.Deep.RegionWith
import Derived.IntWalk
import Derived.Laws.BitsAllLaws
import Derived.Laws.MathBits
import Derived.Laws.OwnMore
import Derived.Laws.Rows
import Derived.Lib.BitFns
import Derived.Lib.Bytealg
import Derived.Lib.Index
import Derived.Lib.Slices
import Derived.Lib.Small
import Derived.Lib.Strings
import Derived.Lib.Walk
import Derived.LoopN
import Derived.Maps.AppendAt
import Derived.OwnWalk
import Derived.RegionTactic
import Derived.Scope
import Derived.StillTail
import Derived.StillTailTactics
import Derived.WalkKit
import Derived.WalkLawsBesides
import Derived.WalkMore
import Derived.WalkSpells
import Init.Data.List.Lemmas
import Derived.Test.YtdecgcdkaaiglaaGreatMg25
set_option linter.unusedVariables false
set_option linter.unusedSimpArgs false
namespace Go.Proofs.YtdecgcdkaaiglaaGreat
open Go.RowKit Go.Deep
attribute [local go_sem ↓] Go.wp_at_zero Go.wp_at_succ
noncomputable def wholeErr (n : Net) (cs : List (List UInt8)) (a b : Int) : Int := if askErr n cs ≠ 0 then askErr n cs else endErr n a b
def RetWho (n : Net) (cs : List (List UInt8)) (a b : Int) (x : Int) (w : World) (e : Ending) (w' : World) : Prop :=
  Below w.heap.size w w' ∧ ((x ≠ 0 ∧ e = .returned (.tuple #[str [], .int .i64 x])) ∨
    (x = 0 ∧ ∃ h, Eff n.nodes.length n.pipes.length n.pf n.pt (condOf cs) a.toNat b.toNat h ∧ Common n.nodes.length h 12735 ∧ e = .returned (.tuple #[str (fracText (condAt n.pipes.length n.pf n.pt (condOf cs) a.toNat h)), .int .i64 0])))
/-- heads 1 and 0 at two nodes -/
def fixAB (a b : Nat) (k : Nat) : Option Rat := if k = a then some 1 else if k = b then some 0 else none
def levAB (a b : Int) : List Level := [⟨a, [49]⟩, ⟨b, [48]⟩]
theorem dz_one : Dz 12 1 := Short.sz (short_nat (k := 1) (by omega))
theorem frac_one : fracText 1 = [49] := by
  have h := frac_nat 1
  rw [dec1] at h
  exact h
theorem levAB_text {a b : Nat} (k : Nat) : levelText (levAB a b) (k : Int) = fracText (outOf (fixAB a b) k) ∧ ((levAB a b).find? (fun v => v.node == (k : Int))).isSome = (fixAB a b k).isSome := by
  unfold levelText levAB outOf fixAB
  by_cases h1 : k = a
  · subst h1
    simp [frac_one]
  · have e1 : ((a : Int) == (k : Int)) = false := by rw [beq_eq_false_iff_ne]; omega
    by_cases h2 : k = b
    · subst h2
      simp [h1, e1, frac_zero]
    · have e2 : ((b : Int) == (k : Int)) = false := by rw [beq_eq_false_iff_ne]; omega
      simp [h1, h2, e1, e2, frac_zero]
theorem given_ab {n : Net} {cs : List (List UInt8)} {a b : Nat} {l : List Bool} (h0 : n.err = 0) (hc : condErr n cs = 0) (hN : n.nodes.length ≤ 6) (hp : n.pipes.length ≤ 9) (ha : a < n.nodes.length)
    (hm : Marks n (fun k => (k : Int) ∈ [(a : Int)]) l) : Given n.nodes.length n.pipes.length n.pf n.pt (condOf cs) (fixAB a b) (fun _ => 0) (fun k => l.getD k false) := by
  obtain ⟨h5, hj⟩ := Net.err_zero h0
  obtain ⟨hl, hcs⟩ := cond_get hc
  refine {
    piped := Net.piped h5.1.1 (fun i hi => (hcs i (by omega)).2.2)
    tied := fun k hk hf => ?_
    cd := fun i hi => short_dz (hcs i (by omega)).2.1
    fd := fun k _ => ?_
    wd := fun k _ => (Dz.zero 1).more (by omega)
    hN := hN
    hp := hp }
  · have h1 : l[k]? = some true := by
      have h2 : l.getD k false = true := hf.2
      have hkl : k < l.length := by rw [hm.len]; exact hk
      rw [List.getElem?_eq_getElem hkl]
      simpa [List.getD, List.getElem?_eq_getElem hkl] using h2
    refine ((hm.iff k).1 h1).mono fun j hj => ?_
    simp only [List.mem_singleton] at hj
    obtain rfl : j = a := by omega
    exact ⟨ha, by unfold fixAB; simp⟩
  · unfold outOf fixAB
    split
    · exact dz_one
    · split
      · exact (Dz.zero 1).more (by omega)
      · exact (Dz.zero 1).more (by omega)
theorem eff_ab {n : Net} {cs : List (List UInt8)} {a b : Nat} {l : List Bool} {h : Nat → Rat} (hG : Given n.nodes.length n.pipes.length n.pf n.pt (condOf cs) (fixAB a b) (fun _ => 0) (fun k => l.getD k false)) (ha : a < n.nodes.length) (hb : b < n.nodes.length) (hne : a ≠ b)
    (hm : Marks n (fun k => (k : Int) ∈ [(a : Int)]) l) (hj : Joined n.pipes.length n.pf n.pt (fun k => (k : Int) ∈ [(a : Int)]) b) (hh : IsHeads n.nodes.length n.pipes.length n.pf n.pt (condOf cs) (fixAB a b) (fun _ => 0) (fun k => l.getD k false) h) :
    Eff n.nodes.length n.pipes.length n.pf n.pt (condOf cs) a b h := by
  have hS : ∀ k : Nat, (k : Int) ∈ [(a : Int)] → k = a := fun k hk => by simp only [List.mem_singleton] at hk; omega
  have hS2 : ∀ k : Nat, k = a → (k : Int) ∈ [(a : Int)] := fun k hk => by simp only [List.mem_singleton]; omega
  refine Eff.of_heads hG.piped ha hb hne (by unfold fixAB; simp) (by unfold fixAB; simp [Ne.symm hne]) (fun k _ h1 h2 => by unfold fixAB; simp [h1, h2]) (fun _ _ => rfl) (fun k hk => ?_) (hj.mono hS) hh
  have h1 := hm.iff k
  have hkl : k < l.length := by rw [hm.len]; exact hk
  rw [List.getElem?_eq_getElem hkl] at h1
  constructor
  · intro h2
    refine (h1.1 ?_).mono hS
    simpa [List.getD, List.getElem?_eq_getElem hkl] using h2
  · intro h2
    have := h1.2 (h2.mono hS2)
    simpa [List.getD, List.getElem?_eq_getElem hkl] using this
theorem endErr_ok {n : Net} {a b : Int} (h : endErr n a b = 0) : 0 ≤ a ∧ a < n.nodes.length ∧ 0 ≤ b ∧ b < n.nodes.length ∧ a ≠ b ∧ Joined n.pipes.length n.pf n.pt (fun k => (k : Int) ∈ [a]) b.toNat := by
  unfold endErr at h
  by_cases h1 : a < 0 ∨ (n.nodes.length : Int) ≤ a ∨ b < 0 ∨ (n.nodes.length : Int) ≤ b
  · rw [if_pos h1] at h; cases h
  · rw [if_neg h1] at h
    by_cases h2 : a = b
    · rw [if_pos h2] at h; cases h
    · rw [if_neg h2] at h
      by_cases h3 : Joined n.pipes.length n.pf n.pt (fun k => (k : Int) ∈ [a]) b.toNat
      · exact ⟨by omega, by omega, by omega, by omega, h2, h3⟩
      · rw [if_neg h3] at h; cases h
theorem hid_alloc2_drawn (W : World) (o o2 : Obj) : Hid (Below W.heap.size W ((W.alloc o).alloc o2).drew) := below_drewN (ext (ext_alloc W o) (ext_alloc _ o2)) 1
theorem reads_one2 (w : World) (o : Obj) (t : TypeId) (a : Value) : Reads ((w.alloc o).alloc (.cells #[a] t)).drew ((w.alloc o).alloc (.cells #[a] t)).drew.heap.size 1 (some ⟨w.heap.size + 1, 0, none⟩) 1 [a] := by
  have h := reads_one (w.alloc o) t a
  have e : (w.alloc o).heap.size = w.heap.size + 1 := World.size_alloc _ _
  rw [e] at h
  exact h
theorem reads_one3 (w : World) (o : Obj) (t : TypeId) (a : Value) : Reads ((w.alloc (.cells #[a] t)).alloc o).drew ((w.alloc (.cells #[a] t)).alloc o).drew.heap.size 1 (some ⟨w.heap.size, 0, none⟩) 1 [a] :=
  ((reads_one w t a).below (ext_alloc _ o)).more (ext_alloc (w.alloc (.cells #[a] t)) o).size
theorem blk_two (w : World) (o : Obj) (t : TypeId) (cs : Array Value) : Blk ((w.alloc o).alloc (.cells cs t)).drew (w.heap.size + 1) t cs := by
  have h := Blk.new (w.alloc o) t cs
  rw [World.size_alloc] at h
  exact h
theorem lev_is {w : World} {g : Nat} {a b : Int} (h : Blk w g 49 #[.int .i64 a, str [49], .int .i64 b, str [48]]) : LevelsIs w (.slice (some ⟨g, 0, none⟩) 2 2) (levAB a b) :=
  ⟨_, 2, rfl, by simp [levAB], by unfold maxLen; omega, by simp [levAB], reads_blk (size := 2) (n := 2) (cs := [.int .i64 a, str [49], .int .i64 b, str [48]]) h rfl, fun x hx => by simp [levAB] at hx; rcases hx with rfl | rfl <;> (unfold SmallS; simp)⟩
theorem lev_nil (w : World) : LevelsIs w (.slice none 0 0) [] := ⟨none, 0, rfl, by simp, by unfold maxLen; omega, by simp, Reads.none_, fun x hx => by cases hx⟩
def RetAB (n : Net) (cs : List (List UInt8)) (a b : Nat) (w : World) (e : Ending) (w' : World) : Prop :=
  ∃ (A : Option Addr) (h : Nat → Rat), e = .returned (.slice A n.nodes.length n.nodes.length) ∧ Eff n.nodes.length n.pipes.length n.pf n.pt (condOf cs) a b h ∧ Common n.nodes.length h 12735 ∧ RowT w' A n.nodes.length (fun k => str (fracText (h k))) ∧ Below w.heap.size w w'
theorem heads_ab (vn vc vl vb : Value) (n : Net) (cs : List (List UInt8)) (l : List Bool) (a b : Nat) (w : World) (hn : NetIs w vn n) (hc : NodesIs w vc cs) (hl : LevelsIs w vl (levAB a b)) (hb : BoolsIs w vb l) (hm : Marks n (fun k => (k : Int) ∈ [(a : Int)]) l)
    (h0 : n.err = 0) (hcn : condErr n cs = 0) (hN : n.nodes.length ≤ 6) (hp : n.pipes.length ≤ 9) (he : endErr n a b = 0) :
    Calls Tryz.prog 36 #[vn, vc, vl, .slice none 0 0, vb] w (RetAB n cs a b w) := by
  obtain ⟨e1, e2, e3, e4, e5, e6⟩ := endErr_ok he
  have hG := given_ab (b := b) h0 hcn hN hp (by omega : a < n.nodes.length) hm
  refine (water_heads vn vc vl (.slice none 0 0) vb n cs (levAB a b) [] l (condOf cs) (fixAB a b) (fun _ => 0) w hn hc hl (lev_nil w) hb (cond_get hcn).1 (fun i hi => ((cond_get hcn).2 i hi).1) (fun k _ => levAB_text k)
    (fun k _ => frac_zero.symm) hm.len (Net.err_zero h0).1.1.1.ends hG).mono ?_
  rintro e w' ⟨A, cap, h, rfl, rfl, hIs, hdz, hrd, hbl⟩
  exact ⟨A, h, rfl, eff_ab hG (by omega) (by omega) (by omega) hm (by simpa using e6) hIs, hG.commonE hIs, hrd, hbl⟩
theorem wq_plus {a b : Rat} (w : World) (ha : Short 50000 a) (hb : Short 50000 b) (h : Short 50000 (a + b)) : Calls Tryz.prog 38 #[str (fracText a), str (fracText b)] w (RetB w (str (fracText (a + b)))) := by
  have h1 := plus_call (fracText a) (fracText b) w (frac_small ha) (frac_small hb)
  unfold plusT at h1
  rw [op2_txt ha hb h] at h1
  exact h1
theorem wq_minus {a b : Rat} (w : World) (ha : Short 50000 a) (hb : Short 50000 b) (h : Short 50000 (a - b)) : Calls Tryz.prog 40 #[str (fracText a), str (fracText b)] w (RetB w (str (fracText (a - b)))) := by
  have h1 := minus_call (fracText a) (fracText b) w (frac_small ha) (frac_small hb)
  unfold minusT at h1
  rw [op2_txt ha hb h] at h1
  exact h1
theorem wq_times {a b : Rat} (w : World) (ha : Short 50000 a) (hb : Short 50000 b) (h : Short 50000 (a * b)) : Calls Tryz.prog 39 #[str (fracText a), str (fracText b)] w (RetB w (str (fracText (a * b)))) := by
  have h1 := times_call (fracText a) (fracText b) w (frac_small ha) (frac_small hb)
  unfold timesT at h1
  rw [op2_txt ha hb h] at h1
  exact h1
theorem wq_over {a b : Rat} (w : World) (ha : Short 50000 a) (hb : Short 50000 b) (h0 : b ≠ 0) (h : Short 50000 (a / b)) : Calls Tryz.prog 69 #[str (fracText a), str (fracText b)] w (RetB w (str (fracText (a / b)))) := by
  have h1 := over_call (fracText a) (fracText b) w (frac_small ha) (frac_small hb)
  unfold overT at h1
  rw [div2_txt ha hb h0 h] at h1
  exact h1
theorem flow_step (n : Net) (c h : Nat → Rat) {k i : Nat} (hne : n.pf i ≠ n.pt i) :
    flowTo (i + 1) n.pf n.pt c h k = if n.pf i = k then flowTo i n.pf n.pt c h k + c i * (h k - h (n.pt i)) else if n.pt i = k then flowTo i n.pf n.pt c h k + c i * (h k - h (n.pf i)) else flowTo i n.pf n.pt c h k := by
  rw [flowTo_succ]
  by_cases h1 : n.pf i = k
  · rw [if_pos h1, if_pos h1, if_neg (fun h2 => hne (h1.trans h2.symm)), h1]; grind
  · rw [if_neg h1, if_neg h1]
    by_cases h2 : n.pt i = k
    · rw [if_pos h2, if_pos h2, h2]; grind
    · rw [if_neg h2, if_neg h2]; grind
def IdxW (K : Nat) (f : Nat → Rat) (W : World) (sv iv : Value) (wr : World) : Prop := ∃ i : Nat, i ≤ K ∧ iv = .int .i64 i ∧ sv = str (fracText (f i)) ∧ Hid (Below W.heap.size W wr)
set_option maxRecDepth 100000 in
set_option maxHeartbeats 16000000 in
theorem water_Whole (vn vc : Value) (n : Net) (cs : List (List UInt8)) (a b : Int) (w : World) (hn : NetIs w vn n) (hc : NodesIs w vc cs) (hsz : n.err = 0 → n.nodes.length ≤ 6 ∧ n.pipes.length ≤ 9) :
    Calls Tryz.prog 12 #[vn, vc, .int .i64 a, .int .i64 b] w (RetWho n cs a b (wholeErr n cs a b) w) := by
  have h1 := fun w' (h : Below w.heap.size w w') => water_asked vn vc n cs w' (hn.below h) (hc.below h)
  have h2 := fun w' (h : Below w.heap.size w w') (h0 : n.err = 0) => water_ends vn n a b w' (hn.below h) h0
  have hjn := fun w' (h : Below w.heap.size w w') A (hr : Reads w' w'.heap.size 1 A 1 [.int .i64 a]) (ha : 0 ≤ a ∧ a < n.nodes.length) (h0 : n.err = 0) => water_joined vn (.slice A 1 1) n [a] w' (hn.below h) ⟨A, 1, rfl, by simp, by unfold maxLen; omega, by simp, hr⟩ (Net.err_zero h0).1.1.1.ends (by omega) (fun z hz => by simp at hz; subst hz; exact ha)
  have hhd := fun w' (h : Below w.heap.size w w') => water_heads vn vc
  have HNET := hide hn
  have HCN := hide hc
  obtain ⟨x, HX⟩ : ∃ x, Hid (askErr n cs = x) := ⟨_, hide rfl⟩
  obtain ⟨z, HZ⟩ : ∃ z, Hid (endErr n a b = z) := ⟨_, hide rfl⟩
  obtain ⟨y, HY⟩ : ∃ y, Hid (wholeErr n cs a b = y) := ⟨_, hide rfl⟩
  rw [HY.out]
  unfold wholeErr at HY
  rw [HX.out] at h1 HY
  rw [HZ.out] at h2 HY
  obtain ⟨Ac, cc, rfl, _⟩ := hc
  obtain ⟨A0, k0, c0, A1, k1, c1, A2, k2, c2, A3, k3, c3, rfl, hn0, hn1, hn2, hn3⟩ := hn
  have hk0 : k0 = n.nodes.length := by obtain ⟨A', c', e, _⟩ := hn0; injection e
  have hk1 : k1 = n.pipes.length := by obtain ⟨A', c', e, _⟩ := hn1; injection e
  have HK0 := hide hk0
  have HK1 := hide hk1
  have HN1 := hide hn1
  have HW := hide (ext_alloc w (.cells #[.slice A0 k0 c0, .slice A1 k1 c1, .slice A2 k2 c2, .slice A3 k3 c3] 26))
  have HK := hide (Blk.new w 26 #[.slice A0 k0 c0, .slice A1 k1 c1, .slice A2 k2 c2, .slice A3 k3 c3])
  clear hn0 hn1 hn2 hn3 hk0 hk1 hhd
  have HSZ := hide hsz
  have H2 := hide h2
  have HJN := hide hjn
  clear hsz h2 hjn
  have r0 := HK.out.cell 0
  have r1 := HK.out.cell 1
  have r2 := HK.out.cell 2
  have r3 := HK.out.cell 3
  have rL := HK.out.lt
  simp at r0 r1 r2 r3
  go_enter Tryz.func12, Tryz.ntmps12
  go_wp2_with fail
  refine (h1 _ HW.out).mono ?_
  rintro e WN ⟨rfl, hbB⟩
  try clear r0 r1 r2 r3 rL
  have HK_ := hide (HK.out.below hbB HK.out.lt)
  have HW_ := hide (ext HW.out hbB)
  clear HK HW
  have HK := HK_
  have HW := HW_
  clear HK_ HW_
  clear hbB
  have r0 := HK.out.cell 0
  have r1 := HK.out.cell 1
  have r2 := HK.out.cell 2
  have r3 := HK.out.cell 3
  have rL := HK.out.lt
  simp at r0 r1 r2 r3
  clear h1
  by_cases h0 : x = 0
  · subst h0
    have hz : n.err = 0 ∧ condErr n cs = 0 := by
      have h0 := HX.out
      unfold askErr at h0
      by_cases h3 : n.err = 0
      · rw [if_neg (by rw [h3]; decide)] at h0; exact ⟨h3, h0⟩
      · rw [if_pos h3] at h0; exact absurd h0 h3
    have HZ0 := hide hz
    clear hz
    go_wp2_with fail
    refine (H2.out _ HW.out HZ0.out.1).mono ?_
    rintro e WN ⟨rfl, hbB⟩
    try clear r0 r1 r2 r3 rL
    have HK_ := hide (HK.out.below hbB HK.out.lt)
    have HW_ := hide (ext HW.out hbB)
    clear HK HW
    have HK := HK_
    have HW := HW_
    clear HK_ HW_
    clear hbB
    have r0 := HK.out.cell 0
    have r1 := HK.out.cell 1
    have r2 := HK.out.cell 2
    have r3 := HK.out.cell 3
    have rL := HK.out.lt
    simp at r0 r1 r2 r3
    by_cases hz0 : z = 0
    · subst hz0
      have he := endErr_ok HZ.out
      obtain ⟨an, ha⟩ : ∃ an : Nat, a = (an : Int) := ⟨a.toNat, by omega⟩
      obtain ⟨bn, hb⟩ : ∃ bn : Nat, b = (bn : Int) := ⟨b.toNat, by omega⟩
      subst ha
      subst hb
      have HE := hide he
      have hyz : Hid (y = 0) := hide (by have := HY.out; rw [if_neg (show ¬ (0 : Int) ≠ 0 by simp)] at this; exact this.symm)
      clear he H2 HY
      go_upto_region 7 with fail
      go_cut [12] from 29 (fun s wc => ∃ (A9 : Option Addr) (h : Nat → Rat), s = .slice A9 n.nodes.length n.nodes.length ∧ Hid (Eff n.nodes.length n.pipes.length n.pf n.pt (condOf cs) an bn h) ∧ Hid (Common n.nodes.length h 12735) ∧
        Hid (RowT wc A9 n.nodes.length fun k => str (fracText (h k))) ∧ Hid (Blk wc w.heap.size 26 #[.slice A0 k0 c0, .slice A1 k1 c1, .slice A2 k2 c2, .slice A3 k3 c3]) ∧ Hid (Below w.heap.size w wc))
      case first =>
        have hj1 := HJN.out (((WN.alloc (.cells #[.int .i64 (an : Int), .string ⟨#[49]⟩, .int .i64 (bn : Int), .string ⟨#[48]⟩] 49)).alloc (.cells #[.int .i64 (an : Int)] 3)).drew) (ext HW.out (hid_alloc2_drawn WN _ _).out) (some ⟨WN.heap.size + 1, 0, none⟩) (reads_one2 WN _ _ _) ⟨HE.out.1, HE.out.2.1⟩ HZ0.out.1
        have hL := ((Blk.new WN 49 #[.int .i64 (an : Int), .string ⟨#[49]⟩, .int .i64 (bn : Int), .string ⟨#[48]⟩]).alloc (.cells #[.int .i64 (an : Int)] 3)).drew
        have HL0 := hide hL
        clear hL
        have hj3 := HJN.out ((WN.alloc (.cells #[.int .i64 (an : Int)] 3)).drew) (ext HW.out (hid_alloc_drawn WN _).out) (some ⟨WN.heap.size, 0, none⟩) (reads_one WN _ _) ⟨HE.out.1, HE.out.2.1⟩ HZ0.out.1
        have hj4 := HJN.out (((WN.alloc (.cells #[.int .i64 (an : Int)] 3)).alloc (.cells #[.int .i64 (an : Int), .string ⟨#[49]⟩, .int .i64 (bn : Int), .string ⟨#[48]⟩] 49)).drew) (ext HW.out (hid_alloc2_drawn WN _ _).out) (some ⟨WN.heap.size, 0, none⟩) (reads_one3 WN _ _ _) ⟨HE.out.1, HE.out.2.1⟩ HZ0.out.1
        have HL4 := hide (blk_two WN (.cells #[.int .i64 (an : Int)] 3) 49 #[.int .i64 (an : Int), .string ⟨#[49]⟩, .int .i64 (bn : Int), .string ⟨#[48]⟩])
        (first | (go_region_held3 (fun w' => Hid (Below WN.heap.size WN w') ∧ w'.cell? ⟨w.heap.size, 0, none⟩ = some (.slice A0 k0 c0) ∧ w'.cell? ⟨w.heap.size, 1, none⟩ = some (.slice A1 k1 c1) ∧ w'.cell? ⟨w.heap.size, 2, none⟩ = some (.slice A2 k2 c2) ∧ w'.cell? ⟨w.heap.size, 3, none⟩ = some (.slice A3 k3 c3) ∧ w.heap.size < w'.heap.size)
          (first
            | (with_reducible refine and_keep ?_ (fun hB => ⟨cellB hB rL r0, cellB hB rL r1, cellB hB rL r2, cellB hB rL r3, sizeB hB rL⟩); with_reducible exact hid_drawn _)
            | (go_split_ands; with_reducible refine and_keep ?_ (fun hB => ⟨cellB hB rL r0, cellB hB rL r1, cellB hB rL r2, cellB hB rL r3, sizeB hB rL⟩); first | with_reducible exact hid_below (by assumption) (by assumption) | with_reducible exact hid_alloc (by assumption) | with_reducible exact hid_alloc_drawn _ _ | (with_reducible exact hid_alloc2_drawn _ _ _) | (with_reducible exact hid_alloc (hid_below (by assumption) (by assumption)))))
          (first
            | (go_at_call 37; (with_reducible refine hj1.mono ?_); rintro e w1 ⟨v1, l, rfl, hv1, hm, hb1⟩; have HV := hide hv1; have HM := hide hm; have HL := hide (lev_is (HL0.out.below hb1 HL0.out.lt)); have HBW := hide (ext HW.out (ext (hid_alloc2_drawn WN _ _).out hb1)); clear hv1 hm)
            | (go_at_call 36; (with_reducible refine (heads_ab (.agg #[.slice A0 k0 c0, .slice A1 k1 c1, .slice A2 k2 c2, .slice A3 k3 c3]) (.slice Ac cs.length cc) _ _ n cs l an bn _ (HNET.out.below HBW.out) (HCN.out.below HBW.out) HL.out HV.out HM.out HZ0.out.1 HZ0.out.2 (HSZ.out HZ0.out.1).1 (HSZ.out HZ0.out.1).2 HZ.out).mono ?_); rintro e w2 ⟨A9, h, rfl, hEff, hCom, hrd, hb2⟩; have HEF := hide hEff; have HCO := hide hCom; have HRD := hide hrd; clear hEff hCom hrd)
            | (go_at_call 37; (with_reducible refine hj3.mono ?_); rintro e w1 ⟨v1, l, rfl, hv1, hm, hb1⟩; have HV := hide (hv1.below (ext_alloc w1 (.cells #[.int .i64 (an : Int), .string ⟨#[49]⟩, .int .i64 (bn : Int), .string ⟨#[48]⟩] 49))); have HM := hide hm; have HL := hide (lev_is (Blk.new w1 49 #[.int .i64 (an : Int), .string ⟨#[49]⟩, .int .i64 (bn : Int), .string ⟨#[48]⟩])); have HBW := hide (ext HW.out (ext (ext (hid_alloc_drawn WN _).out hb1) (ext_alloc w1 (.cells #[.int .i64 (an : Int), .string ⟨#[49]⟩, .int .i64 (bn : Int), .string ⟨#[48]⟩] 49)))); clear hv1 hm)
            | (go_at_call 37; (with_reducible refine hj4.mono ?_); rintro e w1 ⟨v1, l, rfl, hv1, hm, hb1⟩; have HV := hide hv1; have HM := hide hm; have HL := hide (lev_is (HL4.out.below hb1 HL4.out.lt)); have HBW := hide (ext HW.out (ext (hid_alloc2_drawn WN _ _).out hb1)); clear hv1 hm))) | fail "region")
        all_goals
          go_split_ands
          have HBZ := unhide (by assumption : Hid (Below WN.heap.size WN _))
          obtain ⟨w4, hWX, HBY⟩ := (⟨_, rfl, HBZ⟩ : ∃ X, X = _ ∧ Below WN.heap.size WN X)
          rw [← hWX] at HRD ⊢
          clear hWX HBZ
          try clear r0 r1 r2 r3 rL
          have HK_ := hide (HK.out.below HBY HK.out.lt)
          have HW_ := hide (ext HW.out HBY)
          clear HK HW
          have HK := HK_
          have HW := HW_
          clear HK_ HW_
          clear HBY
          have r0 := HK.out.cell 0
          have r1 := HK.out.cell 1
          have r2 := HK.out.cell 2
          have r3 := HK.out.cell 3
          have rL := HK.out.lt
          simp at r0 r1 r2 r3
        all_goals
          go_wp2_with fail
          go_meet
          exact ⟨A9, h, rfl, HEF, HCO, HRD, HK, HW⟩
      case rest =>
        clear HK HW r0 r1 r2 r3 rL HJN
        obtain ⟨A9, h, rfl, HEF, HCO, HRD, HK, HW⟩ := hcut
        have r0 := HK.out.cell 0
        have r1 := HK.out.cell 1
        have r2 := HK.out.cell 2
        have r3 := HK.out.cell 3
        have rL := HK.out.lt
        simp at r0 r1 r2 r3
        have HEN := hide (Net.err_zero HZ0.out.1).1.1.1.ends
        have HCG := hide (cond_get HZ0.out.2)
        have HNP := hide (HSZ.out HZ0.out.1).2
        obtain ⟨S, HT⟩ : ∃ S, Hid (Terms n.nodes.length n.pipes.length (condOf cs) h S (12735 + 108)) := terms_of (fun i hi => short_dz (HCG.out.2 i (by have := HCG.out.1; omega)).2.1) HNP.out HCO.out
        have hk1000 : k1 ≤ 9 := by have := HNP.out; have := HK1.out; omega
        have HAN := hide HEF.out.ha
        generalize hN : n.nodes.length = N at HRD HT HCO HEF HAN HK0 ⊢
        have HN := hide hN
        clear hN
        go_wp2_with fail
        rw [show ([48] : List UInt8) = fracText (flowTo 0 n.pf n.pt (condOf cs) h an) from frac_zero.symm]
        clear r0 r1 r2 r3 rL
        go_loopw [13, 44] (IdxW k1 (fun i => flowTo i n.pf n.pt (condOf cs) h an) wc) (fun _ iv _ => k1 - (intOf iv).toNat)
        case atStart => exact ⟨0, Nat.zero_le _, rfl, rfl, hide (ext_refl wc)⟩
        case round =>
          obtain ⟨i, hi, rfl, rfl, HWR⟩ := hrel
          by_cases hil : i < k1
          · have hin : i < n.pipes.length := by have := HK1.out; omega
            have hii : (i : Int) < (k1 : Int) := by omega
            obtain ⟨ad, e1, hb, p0, p1, p2, p3, p4⟩ := (HN1.out.below (ext HW.out HWR.out)).at_ hin
            subst e1
            have hic : i < cs.length := by have := HCG.out.1; omega
            obtain ⟨ac, e2, lc, qc⟩ := cond_at (HCN.out.below (ext HW.out HWR.out)) hic
            subst e2
            have hci := HCG.out.2 i hic
            rw [hci.1] at qc
            have hcs : Short 50000 (condOf cs i) := Dz.short (Short.sz hci.2.1) (show 12 < 50000 by omega)
            have hcc : numOf (cs.getD i []) = condOf cs i := rfl
            rw [hcc] at qc
            obtain ⟨q1, q2, q3, q4⟩ := HEN.out i hin
            rw [q1] at p1
            rw [q3] at p2
            have hf0 : n.pf i < N := HEF.out.piped.from_lt i hin
            have ht0 : n.pt i < N := HEF.out.piped.to_lt i hin
            have hne : n.pf i ≠ n.pt i := HEF.out.piped.ne i hin
            obtain ⟨a9, e3, l9, h9⟩ := (HRD.out.below HWR.out).at_ hf0
            subst e3
            have u1 := h9 _ hf0
            have u2 := h9 _ ht0
            have hx := ext_alloc wr (.cells #[str n.pipes[i].name, .int .i64 (n.pf i : Int), .int .i64 (n.pt i : Int), str n.pipes[i].low, str n.pipes[i].high] 47)
            have hff : (n.pf i : Int) < (N : Int) := by omega
            have htt : (n.pt i : Int) < (N : Int) := by omega
            have hll : (i : Int) < (cs.length : Int) := by omega
            have hst := flow_step n (condOf cs) h (k := an) hne
            have s0 : Short 50000 (flowTo i n.pf n.pt (condOf cs) h an) := HT.out.flow_short (by omega) HEF.out.piped HNP.out an (by omega)
            have s9 : Short 50000 (flowTo (i + 1) n.pf n.pt (condOf cs) h an) := HT.out.flow_short (by omega) HEF.out.piped HNP.out an (by omega)
            clear hci hcc q1 q2 q3 q4 h9
            by_cases hp1 : n.pf i = an
            · rw [if_pos hp1] at hst
              have hI1 : ((an : Int) == (n.pf i : Int)) = true := by rw [beq_iff_eq, hp1]
              clear hp1
              have hea := HEF.out.ea
              have s1 : Short 50000 (1 - h (n.pt i)) := by rw [← hea]; exact HCO.out.diff (by omega) HAN.out ht0
              have s2 : Short 50000 (condOf cs i * (1 - h (n.pt i))) := by rw [← hea]; exact HT.out.short (by omega) hin HAN.out ht0
              have sx : Short 50000 (h (n.pt i)) := Dz.short (HCO.out.get ht0) (by omega)
              rw [hea] at hst
              rw [hst] at s9
              have hmi := fun w' => wq_minus w' (Dz.short dz_one (by omega)) sx s1
              have htm := fun w' => wq_times w' hcs s1 s2
              have hpl := fun w' => wq_plus w' s0 s2 s9
              rw [frac_one] at hmi
              have HNX := hide (congrArg fracText hst)
              generalize hX1 : fracText (h (n.pt i)) = x1 at u2 hmi
              generalize hX2 : fracText (1 - h (n.pt i)) = x2 at hmi htm
              generalize hX3 : fracText (condOf cs i * (1 - h (n.pt i))) = x3 at htm hpl
              generalize hX4 : fracText (condOf cs i) = x4 at htm qc
              generalize hX5 : fracText (flowTo i n.pf n.pt (condOf cs) h an + condOf cs i * (1 - h (n.pt i))) = x5 at hpl HNX
              generalize hX6 : fracText (flowTo i n.pf n.pt (condOf cs) h an) = x6 at hpl ⊢
              clear s0 s1 s2 s9 sx hst hea hcs hne hf0 ht0 hX1 hX2 hX3 hX4 hX5 hX6
              go_wp2_with fail
              have HP := hide (Blk.new wr 47 #[str n.pipes[i].name, .int .i64 (n.pf i : Int), .int .i64 (n.pt i : Int), str n.pipes[i].low, str n.pipes[i].high])
              have u2 := (hx.cell (by rw [block_of_add]; exact l9)).trans u2
              have qc := (hx.cell (by rw [block_of_add]; exact lc)).trans qc
              have l9 := Nat.lt_of_lt_of_le l9 hx.size
              have lc := Nat.lt_of_lt_of_le lc hx.size
              clear p0 p1 p2 p3 p4 hb u1
              have HWR_ := hide (ext HWR.out hx)
              clear HWR
              have HWR := HWR_
              clear HWR_
              generalize wr.alloc (.cells #[str n.pipes[i].name, .int .i64 (n.pf i : Int), .int .i64 (n.pt i : Int), str n.pipes[i].low, str n.pipes[i].high] 47) = WP at HP HWR hx u2 qc l9 lc ⊢
              generalize wr.heap.size = q at HP ⊢
              clear hx
              have c1 := HP.out.cell 1
              have c2 := HP.out.cell 2
              have cL := HP.out.lt
              simp only [List.getElem?_toArray, List.getElem?_cons_succ, List.getElem?_cons_zero] at c1 c2
              clear HP
              have c2g := grown_cell cL c2
              have qcg := grown_acell lc qc
              have u2g := grown_acell l9 u2
              refine wp_region_grown (by kernel_rfl) (by kernel_rfl) ?_
              repeat (quiet_step (first | (go_at_call 40; exact call_grown (hmi _)) | (go_at_call 39; exact call_grown (htm _)) | (go_at_call 38; exact call_grown (hpl _))))
              refine wpQuiet_nil ?_
              rintro w9 ⟨t9, rfl⟩
              clear c2g qcg u2g
              have hbB := grown_below WP t9
              have HWR_ := hide (ext HWR.out hbB)
              clear HWR
              have HWR := HWR_
              clear HWR_
              generalize grown WP t9 = WQ at hbB HWR ⊢
              clear t9
              clear c1 c2 cL qc lc u2 l9 hbB hmi htm hpl
              go_wp2_with fail
              go_round
              case rel => exact ⟨i + 1, by omega, by go_num, congrArg str HNX.out.symm, HWR⟩
              case measure => simp [intOf]; omega
            · rw [if_neg hp1] at hst
              have hI1 : ((an : Int) == (n.pf i : Int)) = false := by rw [beq_eq_false_iff_ne]; omega
              clear hp1
              by_cases hp2 : n.pt i = an
              · rw [if_pos hp2] at hst
                have hI2 : ((an : Int) == (n.pt i : Int)) = true := by rw [beq_iff_eq, hp2]
                clear hp2
                have hea := HEF.out.ea
                have s1 : Short 50000 (1 - h (n.pf i)) := by rw [← hea]; exact HCO.out.diff (by omega) HAN.out hf0
                have s2 : Short 50000 (condOf cs i * (1 - h (n.pf i))) := by rw [← hea]; exact HT.out.short (by omega) hin HAN.out hf0
                have sx : Short 50000 (h (n.pf i)) := Dz.short (HCO.out.get hf0) (by omega)
                rw [hea] at hst
                rw [hst] at s9
                have hmi := fun w' => wq_minus w' (Dz.short dz_one (by omega)) sx s1
                have htm := fun w' => wq_times w' hcs s1 s2
                have hpl := fun w' => wq_plus w' s0 s2 s9
                rw [frac_one] at hmi
                have HNX := hide (congrArg fracText hst)
                generalize hX1 : fracText (h (n.pf i)) = x1 at u1 hmi
                generalize hX2 : fracText (1 - h (n.pf i)) = x2 at hmi htm
                generalize hX3 : fracText (condOf cs i * (1 - h (n.pf i))) = x3 at htm hpl
                generalize hX4 : fracText (condOf cs i) = x4 at htm qc
                generalize hX5 : fracText (flowTo i n.pf n.pt (condOf cs) h an + condOf cs i * (1 - h (n.pf i))) = x5 at hpl HNX
                generalize hX6 : fracText (flowTo i n.pf n.pt (condOf cs) h an) = x6 at hpl ⊢
                clear s0 s1 s2 s9 sx hst hea hcs hne hf0 ht0 hX1 hX2 hX3 hX4 hX5 hX6
                go_wp2_with fail
                have HP := hide (Blk.new wr 47 #[str n.pipes[i].name, .int .i64 (n.pf i : Int), .int .i64 (n.pt i : Int), str n.pipes[i].low, str n.pipes[i].high])
                have u1 := (hx.cell (by rw [block_of_add]; exact l9)).trans u1
                have qc := (hx.cell (by rw [block_of_add]; exact lc)).trans qc
                have l9 := Nat.lt_of_lt_of_le l9 hx.size
                have lc := Nat.lt_of_lt_of_le lc hx.size
                clear p0 p1 p2 p3 p4 hb u2
                have HWR_ := hide (ext HWR.out hx)
                clear HWR
                have HWR := HWR_
                clear HWR_
                generalize wr.alloc (.cells #[str n.pipes[i].name, .int .i64 (n.pf i : Int), .int .i64 (n.pt i : Int), str n.pipes[i].low, str n.pipes[i].high] 47) = WP at HP HWR hx u1 qc l9 lc ⊢
                generalize wr.heap.size = q at HP ⊢
                clear hx
                have c1 := HP.out.cell 1
                have c2 := HP.out.cell 2
                have cL := HP.out.lt
                simp only [List.getElem?_toArray, List.getElem?_cons_succ, List.getElem?_cons_zero] at c1 c2
                clear HP
                have c1g := grown_cell cL c1
                have qcg := grown_acell lc qc
                have u1g := grown_acell l9 u1
                refine wp_region_grown (by kernel_rfl) (by kernel_rfl) ?_
                repeat (quiet_step (first | (go_at_call 40; exact call_grown (hmi _)) | (go_at_call 39; exact call_grown (htm _)) | (go_at_call 38; exact call_grown (hpl _))))
                refine wpQuiet_nil ?_
                rintro w9 ⟨t9, rfl⟩
                clear c1g qcg u1g
                have hbB := grown_below WP t9
                have HWR_ := hide (ext HWR.out hbB)
                clear HWR
                have HWR := HWR_
                clear HWR_
                generalize grown WP t9 = WQ at hbB HWR ⊢
                clear t9
                clear c1 c2 cL qc lc u1 l9 hbB hmi htm hpl
                go_wp2_with fail
                go_round
                case rel => exact ⟨i + 1, by omega, by go_num, congrArg str HNX.out.symm, HWR⟩
                case measure => simp [intOf]; omega
              · rw [if_neg hp2] at hst
                have hI2 : ((an : Int) == (n.pt i : Int)) = false := by rw [beq_eq_false_iff_ne]; omega
                have HNX := hide (congrArg fracText hst)
                generalize fracText (flowTo i n.pf n.pt (condOf cs) h an) = x6 at HNX ⊢
                clear s0 s9 hst hcs hne hp2 hf0 ht0 u1 u2 qc lc l9
                go_wp2_with fail
                have HWR_ := hide (ext HWR.out hx)
                clear HWR
                have HWR := HWR_
                clear HWR_
                go_round
                case rel => exact ⟨i + 1, by omega, by go_num, congrArg str HNX.out.symm, HWR⟩
                case measure => simp [intOf]; omega
          · obtain rfl : k1 = i := by omega
            go_wp2_with fail
            go_ret2
            refine ⟨ext HW.out HWR.out, .inr ⟨hyz.out, h, ?_, ?_, ?_⟩⟩
            · rw [HN.out]; exact HEF.out
            · rw [HN.out]; exact HCO.out
            · rw [← HK1.out]; rfl
    · have hI : (z != 0) = true := by rw [bne_iff_ne]; exact hz0
      have hyz : Hid (y = z) := hide (by have := HY.out; rw [if_neg (show ¬ (0 : Int) ≠ 0 by simp)] at this; exact this.symm)
      have HNE := hide hz0
      clear hz0 H2 HY HJN
      go_wp2_with fail
      go_ret2
      rw [hyz.out]
      exact ⟨HW.out, .inl ⟨HNE.out, rfl⟩⟩
  · have hI : (x != 0) = true := by rw [bne_iff_ne]; exact h0
    have hyz : Hid (y = x) := hide (by have := HY.out; rw [if_pos h0] at this; exact this.symm)
    have HNE := hide h0
    clear h0 H2 HY HJN
    go_wp2_with fail
    go_ret2
    rw [hyz.out]
    exact ⟨HW.out, .inl ⟨HNE.out, rfl⟩⟩
  end Go.Proofs.YtdecgcdkaaiglaaGreat
namespace Go.Proofs.YtdecgcdkaaiglaaGreat
open Go.RowKit Go.Deep
attribute [local go_sem ↓] Go.wp_at_zero Go.wp_at_succ
noncomputable def givErr (n : Net) (a b : Int) (gs : List (List UInt8)) (many : Int) : Int :=
  if n.err ≠ 0 then n.err else if endErr n a b ≠ 0 then endErr n a b else if (gs.length : Int) ≠ many then 1 else if (∃ g ∈ gs, (readFrac g).isSome = false) then 4 else 0
set_option maxRecDepth 100000 in
theorem not_valid2 (g : List UInt8) (w : World) (hs : SmallS g) : Calls Tryz.prog 104 #[str g] w (RetB w (.bool (!(readFrac g).isSome))) := by
  have h := fun w => valid_any ⟨g.toArray⟩ w (smallS_size hs)
  rw [bts_mk] at h
  obtain ⟨b, hb⟩ : ∃ b, (readFrac g).isSome = b := ⟨_, rfl⟩
  rw [hb] at h ⊢
  clear hb hs
  go_enter Tryz.func104, Tryz.ntmps104
  go_wp2_with fail
  refine (h _).mono ?_
  rintro e w1 ⟨rfl, hb1⟩
  have HW := hide hb1
  clear hb1 h
  go_wp2_with fail
  go_ret
  exact ⟨rfl, HW.out⟩
set_option maxRecDepth 100000 in
set_option maxHeartbeats 8000000 in
theorem water_given (vn vg : Value) (n : Net) (a b : Int) (gs : List (List UInt8)) (many : Int) (w : World) (hn : NetIs w vn n) (hg : NodesIs w vg gs) :
    Calls Tryz.prog 64 #[vn, .int .i64 a, .int .i64 b, vg, .int .i64 many] w (RetB w (.int .i64 (givErr n a b gs many))) := by
  have h1 := fun w' (h : Below w.heap.size w w') => water_check vn n w' (hn.below h)
  have h2 := fun w' (h : Below w.heap.size w w') (h0 : n.err = 0) => water_ends vn n a b w' (hn.below h) h0
  have HGN := hide hg
  obtain ⟨Ag, cg, rfl, hg2, hg3, hg4, hg5, hg6⟩ := hg
  have h3 := fun w' (h : Below w.heap.size w w') => any_texts Ag gs.length cg gs 104 (fun k => !(readFrac (gs.getD k [])).isSome) w' (HGN.out.below h) (enters Tryz.func104 (by rfl) (by rfl)) (fun k hk w2 _ => by
    have := not_valid2 gs[k] w2 (hg6 _ (List.getElem_mem hk))
    simpa [List.getD, List.getElem?_eq_getElem hk] using this)
  rw [anyIdx_texts] at h3
  obtain ⟨r, HR⟩ : ∃ r, Hid (givErr n a b gs many = r) := ⟨_, hide rfl⟩
  rw [HR.out]
  unfold givErr at HR
  obtain ⟨x, HX⟩ : ∃ x, Hid (n.err = x) := ⟨_, hide rfl⟩
  obtain ⟨z, HZ⟩ : ∃ z, Hid (endErr n a b = z) := ⟨_, hide rfl⟩
  obtain ⟨bb, HB⟩ : ∃ bb, Hid (decide (∃ g ∈ gs, (readFrac g).isSome = false) = bb) := ⟨_, hide rfl⟩
  rw [HX.out] at h1 HR
  rw [HZ.out] at h2 HR
  rw [HB.out] at h3
  obtain ⟨A0, k0, c0, A1, k1, c1, A2, k2, c2, A3, k3, c3, rfl, hn0, hn1, hn2, hn3⟩ := hn
  have HW := hide (ext_alloc w (.cells #[.slice A0 k0 c0, .slice A1 k1 c1, .slice A2 k2 c2, .slice A3 k3 c3] 26))
  have HK := hide (Blk.new w 26 #[.slice A0 k0 c0, .slice A1 k1 c1, .slice A2 k2 c2, .slice A3 k3 c3])
  have H2 := hide h2
  clear hn0 hn1 hn2 hn3 hg2 hg3 hg4 hg5 hg6 h2
  have r0 := HK.out.cell 0
  have r1 := HK.out.cell 1
  have r2 := HK.out.cell 2
  have r3 := HK.out.cell 3
  have rL := HK.out.lt
  simp at r0 r1 r2 r3
  by_cases h0 : x = 0
  · subst h0
    by_cases hz : z = 0
    · subst hz
      have HR2 : Hid ((if (gs.length : Int) ≠ many then 1 else if (∃ g ∈ gs, (readFrac g).isSome = false) then 4 else 0) = r) := hide (by have := HR.out; rw [if_neg (show ¬ (0 : Int) ≠ 0 by simp), if_neg (show ¬ (0 : Int) ≠ 0 by simp)] at this; exact this)
      clear HR
      by_cases hl : (gs.length : Int) = many
      · have hI : ((gs.length : Int) != many) = false := by rw [hl]; simp
        have HR3 : Hid ((if (∃ g ∈ gs, (readFrac g).isSome = false) then 4 else 0) = r) := hide (by have := HR2.out; rw [if_neg (show ¬ (gs.length : Int) ≠ many by simpa using hl)] at this; exact this)
        clear HR2 hl
        cases bb with
        | true =>
          have HF : Hid (r = 4) := hide (by rw [← HR3.out, if_pos (of_decide_eq_true HB.out)])
          clear HR3
          go_enter Tryz.func64, Tryz.ntmps64
          go_wp2_with fail
          refine (h1 _ HW.out).mono ?_
          rintro e WN ⟨rfl, hbB⟩
          try clear r0 r1 r2 r3 rL
          have HK_ := hide (HK.out.below hbB HK.out.lt)
          have HW_ := hide (ext HW.out hbB)
          clear HK HW
          have HK := HK_
          have HW := HW_
          clear HK_ HW_
          clear hbB
          have r0 := HK.out.cell 0
          have r1 := HK.out.cell 1
          have r2 := HK.out.cell 2
          have r3 := HK.out.cell 3
          have rL := HK.out.lt
          simp at r0 r1 r2 r3
          go_wp2_with fail
          refine (H2.out _ HW.out HX.out).mono ?_
          rintro e WN ⟨rfl, hbB⟩
          try clear r0 r1 r2 r3 rL
          have HK_ := hide (HK.out.below hbB HK.out.lt)
          have HW_ := hide (ext HW.out hbB)
          clear HK HW
          have HK := HK_
          have HW := HW_
          clear HK_ HW_
          clear hbB
          have r0 := HK.out.cell 0
          have r1 := HK.out.cell 1
          have r2 := HK.out.cell 2
          have r3 := HK.out.cell 3
          have rL := HK.out.lt
          simp at r0 r1 r2 r3
          go_wp2_with fail
          refine (h3 _ HW.out).mono ?_
          rintro e WN ⟨rfl, hbB⟩
          try clear r0 r1 r2 r3 rL
          have HK_ := hide (HK.out.below hbB HK.out.lt)
          have HW_ := hide (ext HW.out hbB)
          clear HK HW
          have HK := HK_
          have HW := HW_
          clear HK_ HW_
          clear hbB
          have r0 := HK.out.cell 0
          have r1 := HK.out.cell 1
          have r2 := HK.out.cell 2
          have r3 := HK.out.cell 3
          have rL := HK.out.lt
          simp at r0 r1 r2 r3
          go_wp2_with fail
          go_ret
          exact ⟨ret_i64' HF.out, HW.out⟩
        | false =>
          have HF : Hid (r = 0) := hide (by rw [← HR3.out, if_neg (of_decide_eq_false HB.out)])
          clear HR3
          go_enter Tryz.func64, Tryz.ntmps64
          go_wp2_with fail
          refine (h1 _ HW.out).mono ?_
          rintro e WN ⟨rfl, hbB⟩
          try clear r0 r1 r2 r3 rL
          have HK_ := hide (HK.out.below hbB HK.out.lt)
          have HW_ := hide (ext HW.out hbB)
          clear HK HW
          have HK := HK_
          have HW := HW_
          clear HK_ HW_
          clear hbB
          have r0 := HK.out.cell 0
          have r1 := HK.out.cell 1
          have r2 := HK.out.cell 2
          have r3 := HK.out.cell 3
          have rL := HK.out.lt
          simp at r0 r1 r2 r3
          go_wp2_with fail
          refine (H2.out _ HW.out HX.out).mono ?_
          rintro e WN ⟨rfl, hbB⟩
          try clear r0 r1 r2 r3 rL
          have HK_ := hide (HK.out.below hbB HK.out.lt)
          have HW_ := hide (ext HW.out hbB)
          clear HK HW
          have HK := HK_
          have HW := HW_
          clear HK_ HW_
          clear hbB
          have r0 := HK.out.cell 0
          have r1 := HK.out.cell 1
          have r2 := HK.out.cell 2
          have r3 := HK.out.cell 3
          have rL := HK.out.lt
          simp at r0 r1 r2 r3
          go_wp2_with fail
          refine (h3 _ HW.out).mono ?_
          rintro e WN ⟨rfl, hbB⟩
          try clear r0 r1 r2 r3 rL
          have HK_ := hide (HK.out.below hbB HK.out.lt)
          have HW_ := hide (ext HW.out hbB)
          clear HK HW
          have HK := HK_
          have HW := HW_
          clear HK_ HW_
          clear hbB
          have r0 := HK.out.cell 0
          have r1 := HK.out.cell 1
          have r2 := HK.out.cell 2
          have r3 := HK.out.cell 3
          have rL := HK.out.lt
          simp at r0 r1 r2 r3
          go_wp2_with fail
          go_ret
          exact ⟨ret_i64' HF.out, HW.out⟩
      · have hI : ((gs.length : Int) != many) = true := by rw [bne_iff_ne]; exact hl
        have HF : Hid (r = 1) := hide (by have := HR2.out; rw [if_pos hl] at this; exact this.symm)
        clear HR2 hl h3
        go_enter Tryz.func64, Tryz.ntmps64
        go_wp2_with fail
        refine (h1 _ HW.out).mono ?_
        rintro e WN ⟨rfl, hbB⟩
        try clear r0 r1 r2 r3 rL
        have HK_ := hide (HK.out.below hbB HK.out.lt)
        have HW_ := hide (ext HW.out hbB)
        clear HK HW
        have HK := HK_
        have HW := HW_
        clear HK_ HW_
        clear hbB
        have r0 := HK.out.cell 0
        have r1 := HK.out.cell 1
        have r2 := HK.out.cell 2
        have r3 := HK.out.cell 3
        have rL := HK.out.lt
        simp at r0 r1 r2 r3
        go_wp2_with fail
        refine (H2.out _ HW.out HX.out).mono ?_
        rintro e WN ⟨rfl, hbB⟩
        try clear r0 r1 r2 r3 rL
        have HK_ := hide (HK.out.below hbB HK.out.lt)
        have HW_ := hide (ext HW.out hbB)
        clear HK HW
        have HK := HK_
        have HW := HW_
        clear HK_ HW_
        clear hbB
        have r0 := HK.out.cell 0
        have r1 := HK.out.cell 1
        have r2 := HK.out.cell 2
        have r3 := HK.out.cell 3
        have rL := HK.out.lt
        simp at r0 r1 r2 r3
        go_wp2_with fail
        go_ret
        exact ⟨ret_i64' HF.out, HW.out⟩
    · have hI : (z != 0) = true := by rw [bne_iff_ne]; exact hz
      have HF : Hid (r = z) := hide (by have := HR.out; rw [if_neg (show ¬ (0 : Int) ≠ 0 by simp), if_pos hz] at this; exact this.symm)
      clear HR hz h3
      go_enter Tryz.func64, Tryz.ntmps64
      go_wp2_with fail
      refine (h1 _ HW.out).mono ?_
      rintro e WN ⟨rfl, hbB⟩
      try clear r0 r1 r2 r3 rL
      have HK_ := hide (HK.out.below hbB HK.out.lt)
      have HW_ := hide (ext HW.out hbB)
      clear HK HW
      have HK := HK_
      have HW := HW_
      clear HK_ HW_
      clear hbB
      have r0 := HK.out.cell 0
      have r1 := HK.out.cell 1
      have r2 := HK.out.cell 2
      have r3 := HK.out.cell 3
      have rL := HK.out.lt
      simp at r0 r1 r2 r3
      go_wp2_with fail
      refine (H2.out _ HW.out HX.out).mono ?_
      rintro e WN ⟨rfl, hbB⟩
      try clear r0 r1 r2 r3 rL
      have HK_ := hide (HK.out.below hbB HK.out.lt)
      have HW_ := hide (ext HW.out hbB)
      clear HK HW
      have HK := HK_
      have HW := HW_
      clear HK_ HW_
      clear hbB
      have r0 := HK.out.cell 0
      have r1 := HK.out.cell 1
      have r2 := HK.out.cell 2
      have r3 := HK.out.cell 3
      have rL := HK.out.lt
      simp at r0 r1 r2 r3
      go_wp2_with fail
      go_ret
      exact ⟨ret_i64' HF.out, HW.out⟩
  · have hI : (x != 0) = true := by rw [bne_iff_ne]; exact h0
    have HF : Hid (r = x) := hide (by have := HR.out; rw [if_pos h0] at this; exact this.symm)
    clear HR h0 h3 H2
    go_enter Tryz.func64, Tryz.ntmps64
    go_wp2_with fail
    refine (h1 _ HW.out).mono ?_
    rintro e WN ⟨rfl, hbB⟩
    try clear r0 r1 r2 r3 rL
    have HK_ := hide (HK.out.below hbB HK.out.lt)
    have HW_ := hide (ext HW.out hbB)
    clear HK HW
    have HK := HK_
    have HW := HW_
    clear HK_ HW_
    clear hbB
    have r0 := HK.out.cell 0
    have r1 := HK.out.cell 1
    have r2 := HK.out.cell 2
    have r3 := HK.out.cell 3
    have rL := HK.out.lt
    simp at r0 r1 r2 r3
    go_wp2_with fail
    go_ret
    exact ⟨ret_i64' HF.out, HW.out⟩
end Go.Proofs.YtdecgcdkaaiglaaGreat
namespace Go.Proofs.YtdecgcdkaaiglaaGreat
open Go.RowKit Go.Deep
attribute [local go_sem ↓] Go.wp_at_zero Go.wp_at_succ
/-- is a number at most another one? -/
def atMostB (la lb : List UInt8) : Bool := match readFrac la, readFrac lb with
  | some x, some y => decide (x ≤ y)
  | _, _ => false
theorem cmpQ_le (x y : Rat) : decide (cmpQ x y ≤ 0) = decide (x ≤ y) := by
  unfold cmpQ
  apply decide_eq_decide.2
  by_cases h1 : x < y
  · rw [if_pos h1]; constructor
    · intro _; grind
    · intro _; decide
  · rw [if_neg h1]
    by_cases h2 : y < x
    · rw [if_pos h2]; constructor
      · intro h; exact absurd h (by decide)
      · intro h; grind
    · rw [if_neg h2]; constructor
      · intro _; grind
      · intro _; decide
theorem atMostB_yes {la lb : List UInt8} {x y : Rat} (ha : readFrac la = some x) (hb : readFrac lb = some y) : atMostB la lb = decide (x ≤ y) := by unfold atMostB; rw [ha, hb]
set_option maxRecDepth 100000 in
set_option maxHeartbeats 4000000 in
theorem law_atMost (la lb : List UInt8) (w : World) (ha : SmallS la) (hb : SmallS lb) : Calls Tryz.prog 10 #[str la, str lb] w (RetB w (.bool (atMostB la lb))) := by
  have hc := fun w => Cmp_any ⟨la.toArray⟩ ⟨lb.toArray⟩ w (smallS_size ha) (smallS_size hb)
  rw [bts_mk, bts_mk] at hc
  unfold RetI2 cmp2 at hc
  obtain ⟨r, HR⟩ : ∃ r, Hid (atMostB la lb = r) := ⟨_, hide rfl⟩
  rw [HR.out]
  unfold atMostB at HR
  clear ha hb
  cases hx : readFrac la with
  | none =>
    rw [hx] at hc HR
    have HF : Hid (r = false) := hide HR.out.symm
    have hI : ((4 : Int) == 0) = false := by decide
    clear hx HR
    go_enter Tryz.func10, Tryz.ntmps10
    go_wp2_with fail
    refine (hc _).mono ?_
    rintro e w1 ⟨rfl, hb1⟩
    have HW := hide hb1
    clear hb1 hc
    go_wp2_with fail
    go_ret
    exact ⟨ret_bool HF.out, HW.out⟩
  | some x =>
    cases hy : readFrac lb with
    | none =>
      rw [hx, hy] at hc HR
      have HF : Hid (r = false) := hide HR.out.symm
      have hI : ((4 : Int) == 0) = false := by decide
      clear hx hy HR
      go_enter Tryz.func10, Tryz.ntmps10
      go_wp2_with fail
      refine (hc _).mono ?_
      rintro e w1 ⟨rfl, hb1⟩
      have HW := hide hb1
      clear hb1 hc
      go_wp2_with fail
      go_ret
      exact ⟨ret_bool HF.out, HW.out⟩
    | some y =>
      rw [hx, hy] at hc HR
      have HF : Hid (r = decide (cmpQ x y ≤ 0)) := hide (by rw [cmpQ_le]; exact HR.out.symm)
      clear hx hy HR
      go_enter Tryz.func10, Tryz.ntmps10
      go_wp2_with fail
      refine (hc _).mono ?_
      rintro e w1 ⟨rfl, hb1⟩
      have HW := hide hb1
      clear hb1 hc
      go_wp2_with fail
      go_ret
      exact ⟨ret_bool HF.out, HW.out⟩
/-- texts in a block of the call's own, and more behind them -/
def TxtIs (w : World) (g : Nat) (l : List (List UInt8)) (rest : List Value) : Prop := Blk w g 28 (l.map str ++ rest).toArray
section
variable {w w' : World} {g : Nat} {l : List (List UInt8)} {rest : List Value}
theorem TxtIs.cell (h : TxtIs w g l rest) {k : Nat} (hk : k < l.length) : w.cell? ⟨g, k, none⟩ = some (str l[k]) := by
  unfold TxtIs at h
  rw [h.cell k, List.getElem?_toArray, List.getElem?_append_left (by simpa using hk)]
  simp [hk]
theorem TxtIs.set_ (h : TxtIs w g l rest) {k : Nat} (hk : k < l.length) (b : List UInt8) : TxtIs (w.setCell ⟨g, k, none⟩ (str b)) g (l.set k b) rest := by
  unfold TxtIs at h ⊢
  have := h.set_ k (str b)
  rw [List.setIfInBounds_toArray, List.set_append_left _ _ (by simpa using hk)] at this
  rw [show (l.set k b).map str = (l.map str).set k (str b) by simp [List.map_set]]
  exact this
theorem TxtIs.lt (h : TxtIs w g l rest) : g < w.heap.size := Blk.lt h
theorem TxtIs.frozen (h : TxtIs w g l rest) (k : Nat) : w.frozen? ⟨g, k, none⟩ = false := Blk.frozen h k
theorem TxtIs.below (h : TxtIs w g l rest) (hb : Below w.heap.size w w') : TxtIs w' g l rest := Blk.below h hb h.lt
theorem TxtIs.nodes {n c : Nat} (h : TxtIs w g l rest) (hn : n = l.length) (hnc : n ≤ c) (hc : c ≤ maxLen) (hs : ∀ x ∈ l, SmallS x) (h1 : l.length ≤ 1000) : NodesIs w (.slice (some ⟨g, 0, none⟩) n c) l := by
  subst hn
  refine ⟨_, c, rfl, hnc, hc, h1, ?_, hs⟩
  unfold TxtIs at h
  have := h.reads (n := l.length) (by simp)
  simpa [List.take_append_of_le_length, List.take_of_length_le] using this
theorem own_texts {base n : Nat} {v : Value} (h : w.ownsRow base 28 1 v n (l.map str)) (hn : 0 < n) :
    ∃ g c rest, v = .slice (some ⟨g, 0, none⟩) n c ∧ base ≤ g ∧ l.length = n ∧ TxtIs w g l rest ∧ n ≤ c ∧ c ≤ maxLen := by
  have hl : l.length = n := by have := h.1; simp at this; omega
  rcases h.2 with ⟨_, h0⟩ | ⟨g, cap, cur, hv, hb, hg, hnc, hcm, hcs, ht⟩
  · omega
  · refine ⟨g, cap, cur.toList.drop n, hv, hb, hl, ?_, hnc, hcm⟩
    unfold TxtIs Blk
    rw [hg]
    congr 2
    rw [← ht, Nat.mul_one, List.take_append_drop]
end
theorem cond_of_text {l : List (List UInt8)} {i : Nat} {q : Rat} (hi : i < l.length) (h : l[i] = fracText q) (hq : Short 50000 q) : condOf l i = q := by
  unfold condOf
  have e : l.getD i [] = fracText q := by simp [List.getD, List.getElem?_eq_getElem hi, h]
  rw [e]
  unfold numOf
  rw [readFrac_text hq]; rfl
theorem Terms.flow_dz {N np F : Nat} {pf pt : Nat → Nat} {c h : Nat → Rat} {S : Int} (t : Terms N np c h S F) (hp : Piped N np pf pt c) (hnp : np ≤ 9) (k : Nat) : Dz (F + 3) (flowTo np pf pt c h k) :=
  (t.flow hp hnp k (Nat.le_refl _)).sz t.1 (Nat.le_refl _) (Nat.le_trans t.2.1 (Nat.pow_le_pow_right (by omega) (by omega)))
theorem whole_short {n : Net} {cs : List (List UInt8)} {a b : Nat} {h : Nat → Rat} (he : Eff n.nodes.length n.pipes.length n.pf n.pt (condOf cs) a b h) (hC : Common n.nodes.length h 12735) (hc : condErr n cs = 0) (hp : n.pipes.length ≤ 9) :
    Dz (12735 + 108 + 3) (condAt n.pipes.length n.pf n.pt (condOf cs) a h) := by
  obtain ⟨hl, hcs⟩ := cond_get hc
  obtain ⟨S, hT⟩ := terms_of (fun i hi => short_dz (hcs i (by omega)).2.1) hp hC
  exact hT.flow_dz he.piped hp a
end Go.Proofs.YtdecgcdkaaiglaaGreat
namespace Go.Proofs.YtdecgcdkaaiglaaGreat
open Go.RowKit Go.Deep
attribute [local go_sem ↓] Go.wp_at_zero Go.wp_at_succ
/-- squares of differences have a common denominator -/
def Sq (N np : Nat) (c g : Nat → Rat) (S : Int) (F : Nat) : Prop := S ≠ 0 ∧ S.natAbs ≤ 10 ^ F ∧ ∀ i, i < np → ∀ x, x < N → ∀ y, y < N → MulQ S (10 ^ (F + 1)) (c i * ((g x - g y) * (g x - g y)))
theorem sq_of {N np E : Nat} {c g : Nat → Rat} (hc : ∀ i, i < np → Dz 12 (c i)) (hnp : np ≤ 9) (hC : Common N g E) : ∃ S, Sq N np c g S (E + E + 108) := by
  obtain ⟨T, t1, t2, t3⟩ := hC
  obtain ⟨p1, p2⟩ := prod_dz hc
  have hp : 10 ^ (12 * np) ≤ 10 ^ 108 := Nat.pow_le_pow_right (by omega) (by omega)
  refine ⟨(prodTo np (fun j => (c j).den) : Int) * (T * T), Int.mul_ne_zero (by omega) (Int.mul_ne_zero t1 t1), ?_, fun i hi x hx y hy => ?_⟩
  · rw [Int.natAbs_mul, Int.natAbs_natCast, Int.natAbs_mul, Nat.add_comm (E + E), Nat.pow_add, Nat.pow_add (m := E)]
    exact Nat.mul_le_mul (Nat.le_trans p1 hp) (Nat.mul_le_mul t2 t2)
  · refine ((MulQ.prod hc hi).mul (((t3 x hx).sub (t3 y hy)).mul ((t3 x hx).sub (t3 y hy)))).mono ?_
    rw [show E + E + 108 + 1 = 108 + (E + E + 1) by omega, Nat.pow_add, Nat.pow_add (m := E + E), Nat.pow_add (m := E)]
    refine Nat.mul_le_mul hp ?_
    generalize 10 ^ E = Y
    rw [show (Y + Y) * (Y + Y) = 4 * (Y * Y) by rw [← Nat.two_mul, Nat.mul_mul_mul_comm]]
    omega
section
variable {N np F : Nat} {pf pt : Nat → Nat} {c g : Nat → Rat} {S : Int}
theorem Sq.short (t : Sq N np c g S F) (hF : F < 49990) {i x y : Nat} (hi : i < np) (hx : x < N) (hy : y < N) : Short 50000 (c i * ((g x - g y) * (g x - g y))) :=
  Dz.short (e := F + 1) ((t.2.2 i hi x hx y hy).sz t.1 (Nat.le_refl _) (Nat.le_trans t.2.1 (Nat.pow_le_pow_right (by omega) (by omega)))) (by omega)
theorem Sq.sum (t : Sq N np c g S F) (hf : ∀ i, i < np → pf i < N) (ht : ∀ i, i < np → pt i < N) (hnp : np ≤ 9) {n : Nat} (hn : n ≤ np) : Dz (F + 2) (cross n pf pt c g g) := by
  have h1 : MulQ S (n * 10 ^ (F + 1)) (cross n pf pt c g g) := MulQ.sum fun i hi => by
    have := t.2.2 i (by omega) _ (hf i (by omega)) _ (ht i (by omega))
    rw [← Rat.mul_assoc] at this
    exact this
  refine h1.sz t.1 ?_ (Nat.le_trans t.2.1 (Nat.pow_le_pow_right (by omega) (by omega)))
  rw [show F + 2 = F + 1 + 1 by omega, Nat.pow_succ (n := 10) (m := F + 1), Nat.mul_comm]
  exact Nat.mul_le_mul (Nat.le_refl _) (by omega)
theorem cross_succ (n : Nat) (pf pt : Nat → Nat) (c g h : Nat → Rat) : cross (n + 1) pf pt c g h = cross n pf pt c g h + c n * (g (pf n) - g (pt n)) * (h (pf n) - h (pt n)) := rfl
end
theorem Common.diff_dz {n E : Nat} {h : Nat → Rat} (hc : Common n h E) {x y : Nat} (hx : x < n) (hy : y < n) : Dz (E + 1) (h x - h y) := by
  obtain ⟨T, h1, h2, h3⟩ := hc
  refine ((h3 x hx).sub (h3 y hy)).sz h1 ?_ (Nat.le_trans h2 (Nat.pow_le_pow_right (by omega) (by omega)))
  rw [Nat.pow_succ]; omega
theorem fracText_ne (q : Rat) : fracText q ≠ [] := by
  intro h
  unfold fracText at h
  rw [List.append_eq_nil_iff, List.append_eq_nil_iff] at h
  exact dec_ne _ h.1.2
/-- the greatest conductances -/
def highOf (n : Net) : Nat → Rat := fun i => numOf (n.pipes.getD i default).high
def lowOf (n : Net) : Nat → Rat := fun i => numOf (n.pipes.getD i default).low
theorem Net.bounds {n : Net} (h : n.P3) {i : Nat} (hi : i < n.pipes.length) : n.pipes[i].high = fracText (highOf n i) ∧ Dz 12 (highOf n i) ∧ n.pipes[i].low = fracText (lowOf n i) ∧ Dz 12 (lowOf n i) ∧ 0 < lowOf n i ∧ lowOf n i ≤ highOf n i := by
  have h0 := Net.pipe_ends (firstErr_all.1 h.2.2 i hi)
  have e : n.pipes.getD i default = n.pipes[i] := by simp [List.getD, List.getElem?_eq_getElem hi]
  obtain ⟨_, _, _, _, _, h1, h2, h3, h4⟩ := h0
  obtain ⟨q, a1, a2, a3, a4⟩ := numErr_ok h1
  obtain ⟨r, b1, b2, b3, b4⟩ := numErr_ok h2
  unfold highOf lowOf
  rw [e] at *
  refine ⟨?_, ?_, ?_, ?_, ?_, ?_⟩
  · rw [b3]; exact b4
  · rw [b3]; exact Short.sz b2
  · rw [a3]; exact a4
  · rw [a3]; exact Short.sz a2
  · grind
  · grind
noncomputable def abvErr (n : Net) (a b : Int) (gs : List (List UInt8)) : Int :=
  if givErr n a b gs n.nodes.length ≠ 0 then givErr n a b gs n.nodes.length else if gs.getD a.toNat [] ≠ [49] ∨ gs.getD b.toNat [] ≠ [48] then 8 else 0
def RetAbv (n : Net) (gs : List (List UInt8)) (x : Int) (w : World) (e : Ending) (w' : World) : Prop :=
  Below w.heap.size w w' ∧ ((x ≠ 0 ∧ e = .returned (.tuple #[str [], .int .i64 x])) ∨
    (x = 0 ∧ e = .returned (.tuple #[str (fracText (cross n.pipes.length n.pf n.pt (highOf n) (condOf gs) (condOf gs))), .int .i64 0])))
theorem givErr_ok {n : Net} {a b : Int} {gs : List (List UInt8)} {many : Int} (h : givErr n a b gs many = 0) : n.err = 0 ∧ endErr n a b = 0 ∧ (gs.length : Int) = many ∧ ∀ i (hi : i < gs.length), gs[i] = fracText (condOf gs i) ∧ Short 50000 (condOf gs i) := by
  unfold givErr at h
  by_cases h1 : n.err = 0
  · rw [if_neg (by rw [h1]; simp)] at h
    by_cases h2 : endErr n a b = 0
    · rw [if_neg (by rw [h2]; simp)] at h
      by_cases h3 : (gs.length : Int) = many
      · rw [if_neg (by simpa using h3)] at h
        by_cases h4 : (∃ g ∈ gs, (readFrac g).isSome = false)
        · rw [if_pos h4] at h; cases h
        · refine ⟨h1, h2, h3, fun i hi => ?_⟩
          have h5 : (readFrac gs[i]).isSome = true := by
            cases hs : (readFrac gs[i]).isSome with
            | true => rfl
            | false => exact absurd ⟨gs[i], List.getElem_mem hi, hs⟩ h4
          obtain ⟨q, hq⟩ := Option.isSome_iff_exists.1 h5
          have hr := readFrac_some.1 hq
          have : condOf gs i = q := cond_of_text hi hr.1 hr.2
          rw [this]; exact hr
      · rw [if_pos h3] at h; cases h
    · rw [if_pos h2] at h; exact absurd h h2
  · rw [if_pos h1] at h; exact absurd h h1
def AbvR (K : Nat) (f : Nat → Rat) (W : World) (sv iv : Value) (wr : World) : Prop := ∃ i : Nat, i ≤ K ∧ iv = .int .i64 i ∧ sv = str (fracText (f i)) ∧ Hid (Below W.heap.size W wr)
set_option maxRecDepth 100000 in
set_option maxHeartbeats 16000000 in
theorem water_Above (vn vg : Value) (n : Net) (a b : Int) (gs : List (List UInt8)) (w : World) (hn : NetIs w vn n) (hg : NodesIs w vg gs) (hsz : n.err = 0 → n.nodes.length ≤ 6 ∧ n.pipes.length ≤ 9)
    (hcom : givErr n a b gs n.nodes.length = 0 → Common n.nodes.length (condOf gs) 12735) :
    Calls Tryz.prog 24 #[vn, .int .i64 a, .int .i64 b, vg] w (RetAbv n gs (abvErr n a b gs) w) := by
  have h1 := fun w' (h : Below w.heap.size w w') => water_given vn vg n a b gs n.nodes.length w' (hn.below h) (hg.below h)
  have HGN := hide hg
  obtain ⟨x, HX⟩ : ∃ x, Hid (givErr n a b gs n.nodes.length = x) := ⟨_, hide rfl⟩
  obtain ⟨y, HY⟩ : ∃ y, Hid (abvErr n a b gs = y) := ⟨_, hide rfl⟩
  rw [HY.out]
  unfold abvErr at HY
  rw [HX.out] at h1 HY hcom
  obtain ⟨Ag, cg, rfl, _⟩ := hg
  obtain ⟨A0, k0, c0, A1, k1, c1, A2, k2, c2, A3, k3, c3, rfl, hn0, hn1, hn2, hn3⟩ := hn
  have hk0 : k0 = n.nodes.length := by obtain ⟨A', c', e, _⟩ := hn0; injection e
  have hk1 : k1 = n.pipes.length := by obtain ⟨A', c', e, _⟩ := hn1; injection e
  have HK0 := hide hk0
  have HK1 := hide hk1
  have HN1 := hide hn1
  have HSZ := hide hsz
  have HCM := hide hcom
  have HW := hide (ext_alloc w (.cells #[.slice A0 k0 c0, .slice A1 k1 c1, .slice A2 k2 c2, .slice A3 k3 c3] 26))
  have HK := hide (Blk.new w 26 #[.slice A0 k0 c0, .slice A1 k1 c1, .slice A2 k2 c2, .slice A3 k3 c3])
  rw [← hk0] at h1
  clear hn0 hn1 hn2 hn3 hk0 hk1 hsz hcom
  have r0 := HK.out.cell 0
  have r1 := HK.out.cell 1
  have r2 := HK.out.cell 2
  have r3 := HK.out.cell 3
  have rL := HK.out.lt
  simp at r0 r1 r2 r3
  go_enter Tryz.func24, Tryz.ntmps24
  go_wp2_with fail
  refine (h1 _ HW.out).mono ?_
  rintro e WN ⟨rfl, hbB⟩
  try clear r0 r1 r2 r3 rL
  have HK_ := hide (HK.out.below hbB HK.out.lt)
  have HW_ := hide (ext HW.out hbB)
  clear HK HW
  have HK := HK_
  have HW := HW_
  clear HK_ HW_
  clear hbB
  have r0 := HK.out.cell 0
  have r1 := HK.out.cell 1
  have r2 := HK.out.cell 2
  have r3 := HK.out.cell 3
  have rL := HK.out.lt
  simp at r0 r1 r2 r3
  clear h1
  by_cases h0 : x = 0
  · subst h0
    obtain ⟨he0, he1, hlen, hgs⟩ := givErr_ok HX.out
    have he := endErr_ok he1
    have hlen' : gs.length = k0 := by have := HK0.out; omega
    obtain ⟨an, ha⟩ : ∃ an : Nat, a = (an : Int) := ⟨a.toNat, by omega⟩
    obtain ⟨bn, hb⟩ : ∃ bn : Nat, b = (bn : Int) := ⟨b.toNat, by omega⟩
    subst ha
    subst hb
    have han : an < gs.length := by omega
    have hbn : bn < gs.length := by omega
    obtain ⟨ag, e1, lg, qa⟩ := cond_at (HGN.out.below HW.out) han
    subst e1
    obtain ⟨ag', e1', _, qb⟩ := cond_at (HGN.out.below HW.out) hbn
    injection e1' with e1'
    subst e1'
    have hga : gs.getD an [] = gs[an] := by simp [List.getD, List.getElem?_eq_getElem han]
    have hgb : gs.getD bn [] = gs[bn] := by simp [List.getD, List.getElem?_eq_getElem hbn]
    have HY2 : Hid ((if gs.getD an [] ≠ [49] ∨ gs.getD bn [] ≠ [48] then 8 else 0) = y) := hide (by
      have h := HY.out
      rw [if_neg (show ¬ (0 : Int) ≠ 0 by simp)] at h
      exact h)
    have HGA := hide hga
    have HGB := hide hgb
    have HE0 := hide he0
    have HGS := hide hgs
    have HLEN := hide hlen'
    have hai : (an : Int) < (gs.length : Int) := by omega
    have hbi : (bn : Int) < (gs.length : Int) := by omega
    clear he0 he1 hlen hgs he hlen' hga hgb HY
    by_cases g1 : gs[an] = [49]
    · by_cases g2 : gs[bn] = [48]
      · have hyz : Hid (y = 0) := hide (by rw [← HY2.out, if_neg (by rintro (h | h); exact h (HGA.out.trans g1); exact h (HGB.out.trans g2))])
        rw [g1] at qa
        rw [g2] at qb
        clear g1 g2 HY2 HGA HGB
        go_wp2_with fail
        rw [show ([48] : List UInt8) = fracText (cross 0 n.pf n.pt (highOf n) (condOf gs) (condOf gs)) from frac_zero.symm]
        have HEN := hide (Net.err_zero HE0.out).1.1.1.ends
        have HP3 := hide (Net.err_zero HE0.out).1.1.1
        have hnp := (HSZ.out HE0.out).2
        obtain ⟨S, HT⟩ : ∃ S, Hid (Sq n.nodes.length n.pipes.length (highOf n) (condOf gs) S (12735 + 12735 + 108)) := sq_of (fun i hi => (Net.bounds HP3.out hi).2.1) hnp (HCM.out trivial)
        have HCO := hide (HCM.out trivial)
        have HNP := hide hnp
        have hk1000 : k1 ≤ 9 := by have := HK1.out; omega
        have hgk : gs.length ≤ 6 := by have := (HSZ.out HE0.out).1; have := HLEN.out; have := HK0.out; omega
        clear r0 r1 r2 r3 rL qa qb lg hnp
        go_loopw [11, 41] (AbvR k1 (fun i => cross i n.pf n.pt (highOf n) (condOf gs) (condOf gs)) WN) (fun _ iv _ => k1 - (intOf iv).toNat)
        case atStart => exact ⟨0, Nat.zero_le _, rfl, rfl, hide (ext_refl WN)⟩
        case round =>
          obtain ⟨i, hi, rfl, rfl, HWR⟩ := hrel
          by_cases hil : i < k1
          · have hin : i < n.pipes.length := by have := HK1.out; omega
            have hii : (i : Int) < (k1 : Int) := by omega
            obtain ⟨ad, e1, hb, p0, p1, p2, p3, p4⟩ := (HN1.out.below (ext HW.out HWR.out)).at_ hin
            subst e1
            obtain ⟨q1, q2, q3, q4⟩ := HEN.out i hin
            have hf0 : n.pf i < gs.length := by have := HLEN.out; have := HK0.out; omega
            have ht0 : n.pt i < gs.length := by have := HLEN.out; have := HK0.out; omega
            rw [q1] at p1
            rw [q3] at p2
            obtain ⟨a9, e3, l9, u1⟩ := cond_at (HGN.out.below (ext HW.out HWR.out)) hf0
            injection e3 with e3
            subst e3
            obtain ⟨a9', e3', _, u2⟩ := cond_at (HGN.out.below (ext HW.out HWR.out)) ht0
            injection e3' with e3'
            subst e3'
            rw [(HGS.out _ hf0).1] at u1
            rw [(HGS.out _ ht0).1] at u2
            have hh := Net.bounds HP3.out hin
            rw [hh.1] at p4
            have s1 : Short 50000 (condOf gs (n.pf i) - condOf gs (n.pt i)) := HCO.out.diff (by omega) q2 q4
            have sd : Dz (12735 + 1) (condOf gs (n.pf i) - condOf gs (n.pt i)) := HCO.out.diff_dz q2 q4
            have s2 : Short 50000 ((condOf gs (n.pf i) - condOf gs (n.pt i)) * (condOf gs (n.pf i) - condOf gs (n.pt i))) := Dz.short (Dz.mul sd sd (Nat.le_refl _)) (by omega)
            have s3 : Short 50000 (highOf n i * ((condOf gs (n.pf i) - condOf gs (n.pt i)) * (condOf gs (n.pf i) - condOf gs (n.pt i)))) := HT.out.short (by omega) hin q2 q4
            have s4 : Short 50000 (cross i n.pf n.pt (highOf n) (condOf gs) (condOf gs)) := Dz.short (HT.out.sum (fun i hi => (HEN.out i hi).2.1) (fun i hi => (HEN.out i hi).2.2.2) HNP.out (by omega)) (by omega)
            have s5 : Short 50000 (cross (i + 1) n.pf n.pt (highOf n) (condOf gs) (condOf gs)) := Dz.short (HT.out.sum (fun i hi => (HEN.out i hi).2.1) (fun i hi => (HEN.out i hi).2.2.2) HNP.out (by omega)) (by omega)
            have hst : cross (i + 1) n.pf n.pt (highOf n) (condOf gs) (condOf gs) = cross i n.pf n.pt (highOf n) (condOf gs) (condOf gs) + highOf n i * ((condOf gs (n.pf i) - condOf gs (n.pt i)) * (condOf gs (n.pf i) - condOf gs (n.pt i))) := by rw [cross_succ, Rat.mul_assoc]
            rw [hst] at s5
            have hmi := fun w' => wq_minus w' (HGS.out _ hf0).2 (HGS.out _ ht0).2 s1
            have ht1 := fun w' => wq_times w' s1 s1 s2
            have ht2 := fun w' => wq_times w' (Dz.short hh.2.1 (by omega)) s2 s3
            have hpl := fun w' => wq_plus w' s4 s3 s5
            have HNX := hide (congrArg fracText hst)
            have hff : (n.pf i : Int) < (gs.length : Int) := by omega
            have htt : (n.pt i : Int) < (gs.length : Int) := by omega
            have hx := ext_alloc wr (.cells #[str n.pipes[i].name, .int .i64 (n.pf i : Int), .int .i64 (n.pt i : Int), str n.pipes[i].low, str n.pipes[i].high] 47)
            have e4 : n.pipes[i].high = fracText (highOf n i) := hh.1
            generalize hX1 : fracText (condOf gs (n.pf i)) = x1 at u1 hmi
            generalize hX2 : fracText (condOf gs (n.pt i)) = x2 at u2 hmi
            generalize hX3 : fracText (condOf gs (n.pf i) - condOf gs (n.pt i)) = x3 at hmi ht1
            generalize hX4 : fracText ((condOf gs (n.pf i) - condOf gs (n.pt i)) * (condOf gs (n.pf i) - condOf gs (n.pt i))) = x4 at ht1 ht2
            generalize hX5 : fracText (highOf n i * ((condOf gs (n.pf i) - condOf gs (n.pt i)) * (condOf gs (n.pf i) - condOf gs (n.pt i)))) = x5 at ht2 hpl
            generalize hX6 : fracText (cross i n.pf n.pt (highOf n) (condOf gs) (condOf gs) + highOf n i * ((condOf gs (n.pf i) - condOf gs (n.pt i)) * (condOf gs (n.pf i) - condOf gs (n.pt i)))) = x6 at hpl HNX
            generalize hX7 : fracText (cross i n.pf n.pt (highOf n) (condOf gs) (condOf gs)) = x7 at hpl ⊢
            generalize hX8 : fracText (highOf n i) = x8 at ht2 p4
            clear s1 sd s2 s3 s4 s5 hst q1 q2 q3 q4 hh e4 hf0 ht0 hX1 hX2 hX3 hX4 hX5 hX6 hX7 hX8
            go_wp2_with fail
            have hx := ext_alloc wr (.cells #[str n.pipes[i].name, .int .i64 (n.pf i : Int), .int .i64 (n.pt i : Int), str n.pipes[i].low, str x8] 47)
            have HP := hide (Blk.new wr 47 #[str n.pipes[i].name, .int .i64 (n.pf i : Int), .int .i64 (n.pt i : Int), str n.pipes[i].low, str x8])
            have u1 := (hx.cell (by rw [block_of_add]; exact l9)).trans u1
            have u2 := (hx.cell (by rw [block_of_add]; exact l9)).trans u2
            have l9 := Nat.lt_of_lt_of_le l9 hx.size
            clear p0 p1 p2 p3 p4 hb
            have HWR_ := hide (ext HWR.out hx)
            clear HWR
            have HWR := HWR_
            clear HWR_
            generalize wr.alloc (.cells #[str n.pipes[i].name, .int .i64 (n.pf i : Int), .int .i64 (n.pt i : Int), str n.pipes[i].low, str x8] 47) = WP at HP HWR hx u1 u2 l9 ⊢
            generalize wr.heap.size = q at HP ⊢
            clear hx
            have c0 := HP.out.cell 0
            have c1 := HP.out.cell 1
            have c2 := HP.out.cell 2
            have c3 := HP.out.cell 3
            have c4 := HP.out.cell 4
            have cL := HP.out.lt
            simp at c0 c1 c2 c3 c4
            have c1g := grown_cell cL c1
            have c2g := grown_cell cL c2
            have u1g := grown_acell l9 u1
            have u2g := grown_acell l9 u2
            refine wp_region_grown (by kernel_rfl) (by kernel_rfl) ?_
            repeat (quiet_step (first | (go_at_call 40; exact call_grown (hmi _))))
            refine wpQuiet_nil ?_
            rintro w9 ⟨t9, rfl⟩
            clear c1g c2g u1g u2g
            have hbB := grown_below WP t9
            try clear c0 c1 c2 c3 c4 cL
            have HWR_ := hide (ext HWR.out hbB)
            have HP_ := hide (HP.out.below hbB HP.out.lt)
            clear HWR HP
            have HWR := HWR_
            have HP := HP_
            clear HWR_ HP_
            generalize grown WP t9 = WQ at hbB HWR HP ⊢
            clear t9
            have c0 := HP.out.cell 0
            have c1 := HP.out.cell 1
            have c2 := HP.out.cell 2
            have c3 := HP.out.cell 3
            have c4 := HP.out.cell 4
            have cL := HP.out.lt
            simp at c0 c1 c2 c3 c4
            clear u1 u2 l9 hbB hmi
            go_wp2_with fail
            have c4g := grown_cell cL c4
            refine wp_region_grown (by kernel_rfl) (by kernel_rfl) ?_
            repeat (quiet_step (first | (go_at_call_of 39 (str x3); exact call_grown (ht1 _)) | (go_at_call_of 39 (str x8); exact call_grown (ht2 _)) | (go_at_call 38; exact call_grown (hpl _))))
            refine wpQuiet_nil ?_
            rintro w9 ⟨t9, rfl⟩
            clear c4g
            have hbB := grown_below WQ t9
            try clear c0 c1 c2 c3 c4 cL
            have HWR_ := hide (ext HWR.out hbB)
            have HP_ := hide (HP.out.below hbB HP.out.lt)
            clear HWR HP
            have HWR := HWR_
            have HP := HP_
            clear HWR_ HP_
            generalize grown WQ t9 = WS at hbB HWR HP ⊢
            clear t9
            have c0 := HP.out.cell 0
            have c1 := HP.out.cell 1
            have c2 := HP.out.cell 2
            have c3 := HP.out.cell 3
            have c4 := HP.out.cell 4
            have cL := HP.out.lt
            simp at c0 c1 c2 c3 c4
            clear hbB ht1 ht2 hpl c0 c1 c2 c3 c4 cL HP
            go_wp2_with fail
            go_round
            case rel => exact ⟨i + 1, by omega, by go_num, congrArg str HNX.out.symm, HWR⟩
            case measure => simp [intOf]; omega
          · obtain rfl : k1 = i := by omega
            rw [HK1.out]
            have hne : (fracText (cross n.pipes.length n.pf n.pt (highOf n) (condOf gs) (condOf gs)) == []) = false := by rw [beq_eq_false_iff_ne]; exact fracText_ne _
            go_wp2_with fail
            go_ret2
            exact ⟨ext HW.out HWR.out, .inr ⟨hyz.out, rfl⟩⟩
      · have hyz : Hid (y = 8) := hide (by rw [← HY2.out, if_pos (.inr (fun h => g2 (HGB.out.symm.trans h)))])
        rw [g1] at qa
        have hI : (gs[bn] == [48]) = false := by rw [beq_eq_false_iff_ne]; exact g2
        generalize gs[bn] = tb at qb hI
        clear g1 g2 HY2
        go_wp2_with fail
        go_ret2
        rw [hyz.out]
        exact ⟨HW.out, .inl ⟨by decide, rfl⟩⟩
    · have hyz : Hid (y = 8) := hide (by rw [← HY2.out, if_pos (.inl (fun h => g1 (HGA.out.symm.trans h)))])
      have hI : (gs[an] == [49]) = false := by rw [beq_eq_false_iff_ne]; exact g1
      clear g1 HY2 qb
      generalize gs[an] = ta at qa hI
      go_wp2_with fail
      go_ret2
      rw [hyz.out]
      exact ⟨HW.out, .inl ⟨by decide, rfl⟩⟩
  · have hI : (x != 0) = true := by rw [bne_iff_ne]; exact h0
    have hyz : Hid (y = x) := hide (by have := HY.out; rw [if_pos h0] at this; exact this.symm)
    have HNE := hide h0
    clear h0 HY
    go_wp2_with fail
    go_ret2
    rw [hyz.out]
    exact ⟨HW.out, .inl ⟨HNE.out, rfl⟩⟩
end Go.Proofs.YtdecgcdkaaiglaaGreat
namespace Go.Proofs.YtdecgcdkaaiglaaGreat
open Go.RowKit Go.Deep
theorem Dz.inv {e : Nat} {q : Rat} (h : Dz e q) (h0 : q ≠ 0) : Dz e (1 / q) := by
  have hn : q.num ≠ 0 := fun h => h0 (Rat.num_eq_zero.1 h)
  refine sz_of (s := q.num) (M := q.den) hn ?_ (by rw [Int.natAbs_natCast]; exact h.2) h.1
  rw [← mul_den q, ← Rat.mul_assoc, Rat.div_mul_cancel h0, Rat.one_mul]
/-- losses of flows have a common denominator -/
def Loss (np : Nat) (c f : Nat → Rat) (S : Int) (F : Nat) : Prop := S ≠ 0 ∧ S.natAbs ≤ 10 ^ F ∧ ∀ i, i < np → MulQ S (10 ^ F) (f i * f i / c i)
theorem loss_of {np E : Nat} {c f : Nat → Rat} (hc : ∀ i, i < np → Dz 12 (c i)) (h0 : ∀ i, i < np → 0 < c i) (hnp : np ≤ 9) (hC : Common np f E) : ∃ S, Loss np c f S (E + E + 108) := by
  obtain ⟨T, t1, t2, t3⟩ := hC
  have hd : ∀ i, i < np → Dz 12 (1 / c i) := fun i hi => (hc i hi).inv (by have := h0 i hi; grind)
  obtain ⟨p1, p2⟩ := prod_dz hd
  have hp : 10 ^ (12 * np) ≤ 10 ^ 108 := Nat.pow_le_pow_right (by omega) (by omega)
  refine ⟨(prodTo np (fun j => (1 / c j).den) : Int) * (T * T), Int.mul_ne_zero (by omega) (Int.mul_ne_zero t1 t1), ?_, fun i hi => ?_⟩
  · rw [Int.natAbs_mul, Int.natAbs_natCast, Int.natAbs_mul, Nat.add_comm (E + E), Nat.pow_add, Nat.pow_add (m := E)]
    exact Nat.mul_le_mul (Nat.le_trans p1 hp) (Nat.mul_le_mul t2 t2)
  · have h1 := (MulQ.prod hd hi).mul ((t3 i hi).mul (t3 i hi))
    rw [show 1 / c i * (f i * f i) = f i * f i / c i by rw [Rat.div_def, Rat.div_def, Rat.one_mul, Rat.mul_comm]] at h1
    refine h1.mono ?_
    rw [Nat.add_comm (E + E), Nat.pow_add, Nat.pow_add (m := E)]
    exact Nat.mul_le_mul hp (Nat.le_refl _)
/-- the loss of flows over the first n pipes -/
def lossTo (n : Nat) (c f : Nat → Rat) : Rat := sumTo n fun i => f i * f i / c i
theorem loss_succ (n : Nat) (c f : Nat → Rat) : lossTo (n + 1) c f = lossTo n c f + f n * f n / c n := rfl
section
variable {np F : Nat} {c f : Nat → Rat} {S : Int}
theorem Loss.one (t : Loss np c f S F) {i : Nat} (hi : i < np) : Dz F (f i * f i / c i) := (t.2.2 i hi).sz t.1 (Nat.le_refl _) t.2.1
theorem Loss.sum (t : Loss np c f S F) (hnp : np ≤ 9) {n : Nat} (hn : n ≤ np) : Dz (F + 1) (lossTo n c f) := by
  have h1 : MulQ S (n * 10 ^ F) (lossTo n c f) := MulQ.sum fun i hi => t.2.2 i (by omega)
  refine h1.sz t.1 ?_ (Nat.le_trans t.2.1 (Nat.pow_le_pow_right (by omega) (by omega)))
  rw [Nat.pow_succ, Nat.mul_comm]
  exact Nat.mul_le_mul (Nat.le_refl _) (by omega)
theorem loss_nonneg (hc : ∀ i, i < np → 0 < c i) : ∀ n, n ≤ np → 0 ≤ lossTo n c f := by
  intro n
  induction n with
  | zero => intro _; exact Rat.le_refl
  | succ n ih =>
    intro hn
    rw [loss_succ]
    have h1 := ih (by omega)
    have h2 : 0 ≤ f n * f n / c n := by
      rw [Rat.div_def]
      exact Rat.mul_nonneg (sq_nonneg_ _) (Rat.le_of_lt (Rat.inv_pos.2 (hc n (by omega))))
    grind
theorem loss_pos (hc : ∀ i, i < np → 0 < c i) : ∀ n, n ≤ np → (∃ i, i < n ∧ f i ≠ 0) → 0 < lossTo n c f := by
  intro n
  induction n with
  | zero => rintro _ ⟨i, hi, _⟩; omega
  | succ n ih =>
    rintro hn ⟨i, hi, h0⟩
    rw [loss_succ]
    have h1 := loss_nonneg (f := f) hc n (by omega)
    have hv := Rat.inv_pos.2 (hc n (by omega))
    have h2 : 0 ≤ f n * f n / c n := by
      rw [Rat.div_def]
      exact Rat.mul_nonneg (sq_nonneg_ _) (Rat.le_of_lt hv)
    by_cases hn0 : f n = 0
    · have h3 := ih (by omega) ⟨i, by
        have : i ≠ n := fun h => h0 (h ▸ hn0)
        omega, h0⟩
      grind
    · have h3 : 0 < f n * f n / c n := by
        rw [Rat.div_def]
        refine Rat.mul_pos ?_ hv
        have h4 : f n * f n ≠ 0 := by
          intro h
          rcases Rat.mul_eq_zero.1 h with h | h <;> exact hn0 h
        have h5 := sq_nonneg_ (f n)
        grind
      grind
theorem div_succ (n : Nat) (pf pt : Nat → Nat) (f : Nat → Rat) (k : Nat) : divOf (n + 1) pf pt f k = divOf n pf pt f k + ((if pf n = k then f n else 0) + (if pt n = k then -(f n) else 0)) := rfl
theorem div_dz {E : Nat} (h : Common np f E) (hnp : np ≤ 9) (pf pt : Nat → Nat) (k : Nat) {n : Nat} (hn : n ≤ np) : Dz (E + 2) (divOf n pf pt f k) := by
  obtain ⟨T, t1, t2, t3⟩ := h
  have h1 : MulQ T (n * (10 ^ E + 10 ^ E)) (divOf n pf pt f k) := MulQ.sum fun i hi => by
    have h2 := t3 i (by omega)
    refine MulQ.add ?_ ?_
    · by_cases h : pf i = k
      · rw [if_pos h]; exact h2
      · rw [if_neg h]; exact MulQ.zero _ _
    · by_cases h : pt i = k
      · rw [if_pos h]; exact h2.neg
      · rw [if_neg h]; exact MulQ.zero _ _
  refine h1.sz t1 ?_ (Nat.le_trans t2 (Nat.pow_le_pow_right (by omega) (by omega)))
  rw [Nat.pow_add, show 10 ^ 2 = 100 from rfl, Nat.mul_comm]
  generalize 10 ^ E = Y
  have : (Y + Y) * n ≤ (Y + Y) * 9 := Nat.mul_le_mul (Nat.le_refl _) (by omega)
  omega
theorem one_dz {E : Nat} (h : Common np f E) {i : Nat} (hi : i < np) : Dz E (f i) := by
  obtain ⟨T, t1, t2, t3⟩ := h
  exact (t3 i hi).sz t1 (Nat.le_refl _) t2
/-- a unit flow is not nothing -/
theorem UnitFlow.some {N a b : Nat} {pf pt : Nat → Nat} (h : UnitFlow N np pf pt a b f) (ha : a < N) : ∃ i, i < np ∧ f i ≠ 0 := by
  apply Classical.byContradiction
  intro hx
  have h0 : ∀ i, i < np → f i = 0 := fun i hi => Classical.byContradiction fun h => hx ⟨i, hi, h⟩
  have h1 := h a ha
  rw [if_pos rfl] at h1
  have h2 : divOf np pf pt f a = 0 := by
    unfold divOf
    rw [sumTo_congr (g := fun _ => 0) (fun i hi => by simp only [h0 i hi]; grind), sumTo_const0]
  rw [h2] at h1
  exact absurd h1 (by decide)
end
/-- the error of Below -/
noncomputable def blwErr (n : Net) (a b : Int) (fs : List (List UInt8)) : Int :=
  if givErr n a b fs n.pipes.length ≠ 0 then givErr n a b fs n.pipes.length else @ite _ (UnitFlow n.nodes.length n.pipes.length n.pf n.pt a.toNat b.toNat (condOf fs)) (Classical.propDecidable _) 0 8
def RetBlw (n : Net) (fs : List (List UInt8)) (x : Int) (w : World) (e : Ending) (w' : World) : Prop :=
  Below w.heap.size w w' ∧ ((x ≠ 0 ∧ e = .returned (.tuple #[str [], .int .i64 x])) ∨
    (x = 0 ∧ e = .returned (.tuple #[str (fracText (1 / lossTo n.pipes.length (lowOf n) (condOf fs))), .int .i64 0])))
/-- the text that Below wants at a node -/
def wantT (a b k : Nat) : Rat := if k = a then 1 else if k = b then -1 else 0
end Go.Proofs.YtdecgcdkaaiglaaGreat
namespace Go.Proofs.YtdecgcdkaaiglaaGreat
open Go.RowKit Go.Deep
attribute [local go_sem ↓] Go.wp_at_zero Go.wp_at_succ
theorem frac_neg1 : fracText (-1) = [45, 49] := by
  have h1 : (-1 : Rat).num = -1 := rfl
  have h2 : (-1 : Rat).den = 1 := rfl
  have h3 : dec 1 = [49] := by have h := frac_one; unfold fracText at h; simpa using h
  unfold fracText
  rw [h1, h2]
  simp [h3]
def zerosF (i : Nat) : Nat → Value := fun j => str (if j < i then [48] else [])
theorem zerosF_at (i : Nat) : zerosF (i + 1) i = str [48] := by unfold zerosF; rw [if_pos (by omega)]
theorem zerosF_off {i j : Nat} (h : j ≠ i) : zerosF (i + 1) j = zerosF i j := by
  unfold zerosF
  by_cases h1 : j < i
  · rw [if_pos h1, if_pos (by omega)]
  · rw [if_neg h1, if_neg (by omega)]
def awayF (f : Nat → Rat) : Nat → Value := fun j => str (fracText (f j))
theorem div_zero_ (pf pt : Nat → Nat) (f : Nat → Rat) (k : Nat) : divOf 0 pf pt f k = 0 := rfl
theorem div_from {n : Nat} {pf pt : Nat → Nat} {f : Nat → Rat} (h : pf n ≠ pt n) : divOf (n + 1) pf pt f (pf n) = divOf n pf pt f (pf n) + f n := by
  rw [div_succ, if_pos rfl, if_neg (fun e => h e.symm)]; grind
theorem div_to {n : Nat} {pf pt : Nat → Nat} {f : Nat → Rat} (h : pf n ≠ pt n) : divOf (n + 1) pf pt f (pt n) = divOf n pf pt f (pt n) - f n := by
  rw [div_succ, if_pos rfl, if_neg h]; grind
theorem div_off {n : Nat} {pf pt : Nat → Nat} {f : Nat → Rat} {k : Nat} (h1 : k ≠ pf n) (h2 : k ≠ pt n) : divOf (n + 1) pf pt f k = divOf n pf pt f k := by
  rw [div_succ, if_neg (fun e => h1 e.symm), if_neg (fun e => h2 e.symm)]; grind
theorem Net.pf_ne {n : Net} (h : n.P3) {i : Nat} (hi : i < n.pipes.length) : n.pf i ≠ n.pt i := by
  have h0 := Net.pipe_ends (firstErr_all.1 h.2.2 i hi)
  unfold Net.pf Net.pt
  omega
def BlwZ (K g : Nat) (W : World) (iv : Value) (wr : World) : Prop := ∃ i : Nat, i ≤ K ∧ iv = .int .i64 i ∧ Hid (RowIs wr g 28 K (zerosF i)) ∧ Hid (Below W.heap.size W wr)
def BlwS (K N g : Nat) (n : Net) (f : Nat → Rat) (W : World) (sv iv : Value) (wr : World) : Prop :=
  ∃ i : Nat, i ≤ K ∧ iv = .int .i64 i ∧ sv = str (fracText (lossTo i (lowOf n) f)) ∧ Hid (RowIs wr g 28 N (awayF (divOf i n.pf n.pt f))) ∧ Hid (Below W.heap.size W wr)
def BlwC (N : Nat) (ok : Nat → Prop) (W : World) (iv : Value) (wr : World) : Prop :=
  ∃ i : Nat, i ≤ N ∧ iv = .int .i64 i ∧ Hid (∀ j, j < i → ok j) ∧ Hid (Below W.heap.size W wr)
/-- what the region of two stores keeps: the pipe's block -/
def BlwK (WN : World) (q : Nat) (cs : Array Value) (w : World) : Prop := Below WN.heap.size WN w ∧ Blk w q 47 cs
theorem blw_keep {WN w : World} {q : Nat} {cs : Array Value} {v1 v2 : Value} (h1 : cs[1]? = some v1) (h2 : cs[2]? = some v2) (h : BlwK WN q cs w) : Hid (BlwK WN q cs w) ∧ w.cell? ⟨q, 1, none⟩ = some v1 ∧ w.cell? ⟨q, 2, none⟩ = some v2 :=
  ⟨hide h, (h.2.cell 1).trans h1, (h.2.cell 2).trans h2⟩
theorem blw_drew {WN w : World} {q : Nat} {cs : Array Value} (h : Hid (BlwK WN q cs w)) : BlwK WN q cs w.drew := ⟨below_drewN h.out.1 1, h.out.2⟩
theorem blw_call {WN w w' : World} {q : Nat} {cs : Array Value} (h : Hid (BlwK WN q cs w)) (hb : Below w.heap.size w w') : BlwK WN q cs w' := ⟨ext h.out.1 hb, h.out.2.below hb h.out.2.lt⟩
theorem blw_set {WN w : World} {q g k : Nat} {cs : Array Value} {v : Value} (h : Hid (BlwK WN q cs w)) (hq : Hid (g ≠ q)) (hg : Hid (WN.heap.size ≤ g)) : BlwK WN q cs (w.setCell ⟨g, k, none⟩ v) :=
  ⟨h.out.1.setCell (p := ⟨g, k, none⟩) hg.out v, h.out.2.far (p := ⟨g, k, none⟩) (fun e => hq.out e.symm) v⟩
set_option maxRecDepth 100000 in
set_option maxHeartbeats 16000000 in
theorem water_Below (vn vg : Value) (n : Net) (a b : Int) (fs : List (List UInt8)) (w : World) (hn : NetIs w vn n) (hg : NodesIs w vg fs) (hsz : n.err = 0 → n.nodes.length ≤ 6 ∧ n.pipes.length ≤ 9)
    (hcom : givErr n a b fs n.pipes.length = 0 → Common n.pipes.length (condOf fs) 13000) :
    Calls Tryz.prog 26 #[vn, .int .i64 a, .int .i64 b, vg] w (RetBlw n fs (blwErr n a b fs) w) := by
  have h1 := fun w' (h : Below w.heap.size w w') => water_given vn vg n a b fs n.pipes.length w' (hn.below h) (hg.below h)
  have HGN := hide hg
  obtain ⟨x, HX⟩ : ∃ x, Hid (givErr n a b fs n.pipes.length = x) := ⟨_, hide rfl⟩
  obtain ⟨y, HY⟩ : ∃ y, Hid (blwErr n a b fs = y) := ⟨_, hide rfl⟩
  rw [HY.out]
  unfold blwErr at HY
  rw [HX.out] at h1 HY hcom
  obtain ⟨Ag, cg, rfl, _⟩ := hg
  obtain ⟨A0, k0, c0, A1, k1, c1, A2, k2, c2, A3, k3, c3, rfl, hn0, hn1, hn2, hn3⟩ := hn
  have hk0 : k0 = n.nodes.length := by obtain ⟨A', c', e, _⟩ := hn0; injection e
  have hk1 : k1 = n.pipes.length := by obtain ⟨A', c', e, _⟩ := hn1; injection e
  have HK0 := hide hk0
  have HK1 := hide hk1
  have HN1 := hide hn1
  have HSZ := hide hsz
  have HCM := hide hcom
  have HW := hide (ext_alloc w (.cells #[.slice A0 k0 c0, .slice A1 k1 c1, .slice A2 k2 c2, .slice A3 k3 c3] 26))
  have HK := hide (Blk.new w 26 #[.slice A0 k0 c0, .slice A1 k1 c1, .slice A2 k2 c2, .slice A3 k3 c3])
  rw [← hk1] at h1
  clear hn0 hn1 hn2 hn3 hk0 hk1 hsz hcom
  have r0 := HK.out.cell 0
  have r1 := HK.out.cell 1
  have r2 := HK.out.cell 2
  have r3 := HK.out.cell 3
  have rL := HK.out.lt
  simp at r0 r1 r2 r3
  go_enter Tryz.func26, Tryz.ntmps26
  go_wp2_with fail
  refine (h1 _ HW.out).mono ?_
  rintro e WN ⟨rfl, hbB⟩
  try clear r0 r1 r2 r3 rL
  have HK_ := hide (HK.out.below hbB HK.out.lt)
  have HW_ := hide (ext HW.out hbB)
  clear HK HW
  have HK := HK_
  have HW := HW_
  clear HK_ HW_
  clear hbB
  have r0 := HK.out.cell 0
  have r1 := HK.out.cell 1
  have r2 := HK.out.cell 2
  have r3 := HK.out.cell 3
  have rL := HK.out.lt
  simp at r0 r1 r2 r3
  clear h1
  by_cases h0 : x = 0
  · subst h0
    obtain ⟨he0, he1, hlen, hgs⟩ := givErr_ok HX.out
    have he := endErr_ok he1
    have hlen' : fs.length = k1 := by have := HK1.out; omega
    obtain ⟨an, ha⟩ : ∃ an : Nat, a = (an : Int) := ⟨a.toNat, by omega⟩
    obtain ⟨bn, hb⟩ : ∃ bn : Nat, b = (bn : Int) := ⟨b.toNat, by omega⟩
    subst ha
    subst hb
    have HAN : Hid (an < n.nodes.length) := hide (by omega)
    have HAB : Hid (an ≠ bn) := hide (by omega)
    have HY2 : Hid (@ite Int (UnitFlow n.nodes.length n.pipes.length n.pf n.pt an bn (condOf fs)) (Classical.propDecidable _) 0 8 = y) := hide (by
      have h := HY.out
      rw [if_neg (show ¬ (0 : Int) ≠ 0 by simp)] at h
      exact h)
    have HE0 := hide he0
    have HGS := hide hgs
    have HLEN := hide hlen'
    have hsz := HSZ.out he0
    have hk06 : k0 ≤ 6 := by have := HK0.out; omega
    have hk19 : k1 ≤ 9 := by have := HK1.out; omega
    have HEN := hide (Net.err_zero he0).1.1.1.ends
    have HP3 := hide (Net.err_zero he0).1.1.1
    have HNP := hide hsz.2
    have HCO := hide (HCM.out rfl)
    obtain ⟨S, HT⟩ : ∃ S, Hid (Loss n.pipes.length (lowOf n) (condOf fs) S (13000 + 13000 + 108)) := loss_of (fun i hi => (Net.bounds HP3.out hi).2.2.2.1) (fun i hi => (Net.bounds HP3.out hi).2.2.2.2.1) hsz.2 (HCM.out rfl)
    have hmk := fun w => makeFrac .i64 k0 (by omega) w
    clear he0 he1 hlen hgs he hlen' hsz HY HX HCM
    go_wp2_with fail
    clear hmk
    have hRO : RowIs (WN.alloc (.cells (row k0 fun _ => str []).toArray 28)) WN.heap.size 28 k0 (zerosF 0) := RowIs.congr (f := fun _ => str []) (Blk.new WN 28 (row k0 fun _ => str []).toArray) (fun k _ => by unfold zerosF; rw [if_neg (by omega)])
    have HRO := hide hRO
    have HBZ := hide (ext_alloc WN (.cells (row k0 fun _ => str []).toArray 28))
    obtain ⟨g, hgg⟩ : ∃ g, g = WN.heap.size := ⟨_, rfl⟩
    have HGG := hide hgg
    rw [← hgg] at HRO HBZ ⊢
    clear hRO hgg
    generalize WN.alloc (.cells (row k0 fun _ => str []).toArray 28) = WM at HRO HBZ ⊢
    rw [HGG.out] at HBZ
    clear r0 r1 r2 r3 rL
    go_loopw [37] (BlwZ k0 g WN) (fun iv _ => k0 - (intOf iv).toNat)
    case atStart => exact ⟨0, Nat.zero_le _, rfl, HRO, HBZ⟩
    case round =>
      obtain ⟨i, hi, rfl, HRO, HBZ⟩ := hrel
      by_cases hil : i < k0
      · have hii : (i : Int) < (k0 : Int) := by omega
        have c2 := HRO.out.cell hil
        have f2 := HRO.out.frozen i
        have l2 := HRO.out.lt
        unfold zerosF at c2
        rw [if_neg (by omega)] at c2
        have HR3 := hide (HRO.out.set_ (k := i) (v := str [48]) (f' := zerosF (i + 1)) (zerosF_at i) (fun j _ hj => zerosF_off hj))
        have HB3 := hide (HBZ.out.setCell (p := ⟨g, i, none⟩) (by rw [HGG.out]; exact Nat.le_refl _) (str [48]))
        go_wp2_with fail
        go_round
        case rel => exact ⟨i + 1, by omega, by go_num, HR3, HB3⟩
        case measure => simp [intOf]; omega
      · obtain rfl : k0 = i := by omega
        have HRO : Hid (RowIs wr g 28 k0 (awayF (divOf 0 n.pf n.pt (condOf fs)))) := hide (HRO.out.congr fun k hk => by unfold zerosF awayF; rw [if_pos hk, div_zero_, frac_zero])
        have hgl := HRO.out.lt
        have HGL := hide hgl
        clear hgl
        have r1 := (HK.out.below HBZ.out HK.out.lt).cell 1
        have rL := Nat.lt_of_lt_of_le HK.out.lt HBZ.out.size
        simp at r1
        go_wp2_with fail
        clear r1 rL
        rw [show ([48] : List UInt8) = fracText (lossTo 0 (lowOf n) (condOf fs)) from frac_zero.symm]
        go_loopw [13, 47] (BlwS k1 k0 g n (condOf fs) WN) (fun _ iv _ => k1 - (intOf iv).toNat)
        case atStart => exact ⟨0, Nat.zero_le _, rfl, rfl, HRO, HBZ⟩
        case round =>
          clear HRO HBZ HGL
          obtain ⟨j, hj, rfl, rfl, HRO, HBZ⟩ := hrel
          by_cases hjl : j < k1
          · skip --l2
            have hin : j < n.pipes.length := by have := HK1.out; omega
            have hii : (j : Int) < (k1 : Int) := by omega
            have hjf : j < fs.length := by have := HLEN.out; omega
            have hjfi : (j : Int) < (fs.length : Int) := by omega
            obtain ⟨ad, e1, hb, p0, p1, p2, p3, p4⟩ := (HN1.out.below (ext HW.out HBZ.out)).at_ hin
            subst e1
            obtain ⟨q1, q2, q3, q4⟩ := HEN.out j hin
            have hne := Net.pf_ne HP3.out hin
            rw [q1] at p1
            rw [q3] at p2
            obtain ⟨a9, e3, l9, u9⟩ := cond_at (HGN.out.below (ext HW.out HBZ.out)) hjf
            subst e3
            rw [(HGS.out _ hjf).1] at u9
            have hf0 : n.pf j < k0 := by have := HK0.out; omega
            have ht0 : n.pt j < k0 := by have := HK0.out; omega
            have hh := Net.bounds HP3.out hin
            rw [hh.2.2.1] at p3
            have u1 := HRO.out.cell hf0
            have u2 := HRO.out.cell ht0
            unfold awayF at u1 u2
            have df := one_dz HCO.out hin
            have d1 := div_dz HCO.out HNP.out n.pf n.pt (n.pf j) (n := j) (by omega)
            have d2 := div_dz HCO.out HNP.out n.pf n.pt (n.pt j) (n := j) (by omega)
            have d3 := div_dz HCO.out HNP.out n.pf n.pt (n.pf j) (n := j + 1) (by omega)
            have d4 := div_dz HCO.out HNP.out n.pf n.pt (n.pt j) (n := j + 1) (by omega)
            rw [div_from hne] at d3
            rw [div_to hne] at d4
            have sf : Short 50000 (condOf fs j) := df.short (by omega)
            have s5 : Short 50000 (condOf fs j * condOf fs j) := Dz.short (Dz.mul df df (Nat.le_refl _)) (by omega)
            have s6 : Short 50000 (condOf fs j * condOf fs j / lowOf n j) := Dz.short (HT.out.one hin) (by omega)
            have s7 : Short 50000 (lossTo j (lowOf n) (condOf fs)) := Dz.short (HT.out.sum HNP.out (by omega)) (by omega)
            have s8 : Short 50000 (lossTo (j + 1) (lowOf n) (condOf fs)) := Dz.short (HT.out.sum HNP.out (by omega)) (by omega)
            rw [loss_succ] at s8
            have sL : Short 50000 (lowOf n j) := Dz.short hh.2.2.2.1 (by omega)
            have hl0 : lowOf n j ≠ 0 := by have := hh.2.2.2.2.1; grind
            have hpa := fun w' => wq_plus w' (d1.short (by omega)) sf (d3.short (by omega))
            have hmi := fun w' => wq_minus w' (d2.short (by omega)) sf (d4.short (by omega))
            have htm := fun w' => wq_times w' sf sf s5
            have hov := fun w' => wq_over w' s5 sL hl0 s6
            have hpb := fun w' => wq_plus w' s7 s6 s8
            have HNX := hide (congrArg fracText (loss_succ j (lowOf n) (condOf fs)))
            have HAW : Hid (∀ k, k < k0 → k ≠ n.pf j → k ≠ n.pt j → awayF (divOf (j + 1) n.pf n.pt (condOf fs)) k = awayF (divOf j n.pf n.pt (condOf fs)) k) := hide (fun k _ h1 h2 => by unfold awayF; rw [div_off h1 h2])
            have HD3 : Hid (awayF (divOf (j + 1) n.pf n.pt (condOf fs)) (n.pf j) = str (fracText (divOf j n.pf n.pt (condOf fs) (n.pf j) + condOf fs j))) := hide (by unfold awayF; rw [div_from hne])
            have HD4 : Hid (awayF (divOf (j + 1) n.pf n.pt (condOf fs)) (n.pt j) = str (fracText (divOf j n.pf n.pt (condOf fs) (n.pt j) - condOf fs j))) := hide (by unfold awayF; rw [div_to hne])
            generalize hA1 : awayF (divOf (j + 1) n.pf n.pt (condOf fs)) = aw1 at HAW HD3 HD4
            have HA1 := hide hA1
            clear hA1
            generalize awayF (divOf j n.pf n.pt (condOf fs)) = aw0 at HAW HRO
            generalize hXF : fracText (condOf fs j) = xf at u9 hpa hmi htm
            generalize hX1 : fracText (divOf j n.pf n.pt (condOf fs) (n.pf j)) = x1 at u1 hpa
            generalize hX2 : fracText (divOf j n.pf n.pt (condOf fs) (n.pt j)) = x2 at u2 hmi
            generalize hX3 : fracText (divOf j n.pf n.pt (condOf fs) (n.pf j) + condOf fs j) = x3 at hpa HD3
            generalize hX4 : fracText (divOf j n.pf n.pt (condOf fs) (n.pt j) - condOf fs j) = x4 at hmi HD4
            generalize hX5 : fracText (condOf fs j * condOf fs j) = x5 at htm hov
            generalize hX6 : fracText (condOf fs j * condOf fs j / lowOf n j) = x6 at hov hpb
            generalize hX7 : fracText (lossTo j (lowOf n) (condOf fs) + condOf fs j * condOf fs j / lowOf n j) = x7 at hpb HNX
            generalize hX8 : fracText (lossTo j (lowOf n) (condOf fs)) = x8 at hpb ⊢
            generalize hX9 : fracText (lowOf n j) = x9 at hov p3
            have hff : (n.pf j : Int) < (k0 : Int) := by omega
            have htt : (n.pt j : Int) < (k0 : Int) := by omega
            have HNE := hide hne
            have HF0 := hide hf0
            have HT0 := hide ht0
            have gl := HRO.out.lt
            clear df d1 d2 d3 d4 sf s5 s6 s7 s8 sL hl0 q1 q2 q3 q4 hh hf0 ht0 hne hX1 hX2 hX3 hX4 hX5 hX6 hX7 hX8 hX9 hXF
            have hx := ext_alloc wr (.cells #[str n.pipes[j].name, .int .i64 (n.pf j : Int), .int .i64 (n.pt j : Int), str x9, str n.pipes[j].high] 47)
            have u9 := (hx.cell (by rw [block_of_add]; exact l9)).trans u9
            go_wp2_with fail
            have HP := hide (Blk.new wr 47 #[str n.pipes[j].name, .int .i64 (n.pf j : Int), .int .i64 (n.pt j : Int), str x9, str n.pipes[j].high])
            have u1 := (hx.cell (p := ⟨g, n.pf j, none⟩) gl).trans u1
            have u2 := (hx.cell (p := ⟨g, n.pt j, none⟩) gl).trans u2
            have gl := Nat.lt_of_lt_of_le gl hx.size
            clear p0 p1 p2 p3 p4 hb l9 u9
            have HRO_ := hide (HRO.out.below hx)
            have HBZ_ := hide (ext HBZ.out hx)
            clear HRO HBZ
            have HRO := HRO_
            have HBZ := HBZ_
            clear HRO_ HBZ_
            generalize wr.alloc (.cells #[str n.pipes[j].name, .int .i64 (n.pf j : Int), .int .i64 (n.pt j : Int), str x9, str n.pipes[j].high] 47) = WP at HP HRO HBZ hx u1 u2 gl ⊢
            generalize wr.heap.size = q at HP ⊢
            clear hx
            have c0 := HP.out.cell 0
            have c1 := HP.out.cell 1
            have c2 := HP.out.cell 2
            have c3 := HP.out.cell 3
            have c4 := HP.out.cell 4
            have cL := HP.out.lt
            simp at c0 c1 c2 c3 c4
            have hne := HNE.out
            have HQ : Hid (g ≠ q) := hide (fun e => by
              have h1 := HP.out
              have h2 := HRO.out
              subst e
              unfold RowIs at h2
              have h3 := h1.symm.trans h2
              injection h3 with h3
              injection h3 with h4 h5
              exact absurd h5 (by decide))
            have HQ2 : Hid (WN.heap.size ≤ g) := hide (by rw [HGG.out]; exact Nat.le_refl _)
            have HZ : Hid (BlwK WN q #[str n.pipes[j].name, .int .i64 (n.pf j : Int), .int .i64 (n.pt j : Int), str x9, str n.pipes[j].high] WP) := hide ⟨HBZ.out, HP.out⟩
            clear c0 c3 c4 HP HBZ
            refine wp_region_held_drew (S := (fun w' => Hid (BlwK WN q #[str n.pipes[j].name, .int .i64 (n.pf j : Int), .int .i64 (n.pt j : Int), str x9, str n.pipes[j].high] w') ∧ w'.cell? ⟨q, 1, none⟩ = some (.int .i64 (n.pf j : Int)) ∧ w'.cell? ⟨q, 2, none⟩ = some (.int .i64 (n.pt j : Int)))) (by kernel_rfl) (blw_keep rfl rfl (blw_drew HZ)) (fun hHeld => ?_)
            refine wpAnyH_take (i := 0) (oi := _) (v := ?_) rfl (by kernel_rfl) (by kernel_rfl) (by kernel_rfl) (fun _ _ _ h => h) (Or.inl ⟨by rfl, ?_⟩) (by assumption) ?_
            rotate_left
            · (intro w9 hSw; (try dsimp only at hSw); go_split_ands; go_simp; try with_reducible rfl)
            try simp only [Act.put, List.setIfInBounds_toArray, List.set_cons_zero, List.set_cons_succ]
            refine wpAnyH_take (i := 1) (oi := _) (v := ?_) rfl (by kernel_rfl) (by kernel_rfl) (by kernel_rfl) (fun _ _ _ h => h) (Or.inl ⟨by rfl, ?_⟩) (by assumption) ?_
            rotate_left
            · (intro w9 hSw; (try dsimp only at hSw); go_split_ands; go_simp; try with_reducible rfl)
            try simp only [Act.put, List.setIfInBounds_toArray, List.set_cons_zero, List.set_cons_succ]
            refine wpAnyH_take (i := 2) (oi := _) (v := ?_) rfl (by kernel_rfl) (by kernel_rfl) (by kernel_rfl) (fun _ _ _ h => h) (Or.inl ⟨by rfl, ?_⟩) (by assumption) ?_
            rotate_left
            · (intro w9 hSw; (try dsimp only at hSw); go_split_ands; go_simp; try with_reducible rfl)
            try simp only [Act.put, List.setIfInBounds_toArray, List.set_cons_zero, List.set_cons_succ]
            refine wpAnyH_take (i := 3) (oi := _) (v := ?_) rfl (by kernel_rfl) (by kernel_rfl) (by kernel_rfl) (fun _ _ _ h => h) (Or.inl ⟨by rfl, ?_⟩) (by assumption) ?_
            rotate_left
            · (intro w9 hSw; (try dsimp only at hSw); go_split_ands; go_simp; try with_reducible rfl)
            try simp only [Act.put, List.setIfInBounds_toArray, List.set_cons_zero, List.set_cons_succ]
            refine wpAnyH_take (i := 4) (oi := _) (v := ?_) rfl (by kernel_rfl) (by kernel_rfl) (by kernel_rfl) (fun _ _ _ h => h) (Or.inl ⟨by rfl, ?_⟩) (by assumption) ?_
            rotate_left
            · (intro w9 hSw; (try dsimp only at hSw); go_split_ands; go_simp; try with_reducible rfl)
            try simp only [Act.put, List.setIfInBounds_toArray, List.set_cons_zero, List.set_cons_succ]
            refine wpAnyH_take (i := 5) (oi := _) (v := ?_) rfl (by kernel_rfl) (by kernel_rfl) (by kernel_rfl) (fun _ _ _ h => h) (Or.inl ⟨by rfl, ?_⟩) (by assumption) ?_
            rotate_left
            · (intro w9 hSw; (try dsimp only at hSw); go_split_ands; go_simp; try with_reducible rfl)
            try simp only [Act.put, List.setIfInBounds_toArray, List.set_cons_zero, List.set_cons_succ]
            refine wpAnyH_take (i := 6) (oi := _) (v := ?_) rfl (by kernel_rfl) (by kernel_rfl) (by kernel_rfl) (fun _ _ _ h => h) (Or.inl ⟨by rfl, ?_⟩) (by assumption) ?_
            rotate_left
            · (intro w9 hSw; (try dsimp only at hSw); go_split_ands; go_simp; try with_reducible rfl)
            try simp only [Act.put, List.setIfInBounds_toArray, List.set_cons_zero, List.set_cons_succ]
            refine wpAnyH_take (i := 7) (oi := _) (v := ?_) rfl (by kernel_rfl) (by kernel_rfl) (by kernel_rfl) (fun _ _ _ h => h) (Or.inl ⟨by rfl, ?_⟩) (by assumption) ?_
            rotate_left
            · (intro w9 hSw; (try dsimp only at hSw); go_split_ands; go_simp; try with_reducible rfl)
            try simp only [Act.put, List.setIfInBounds_toArray, List.set_cons_zero, List.set_cons_succ]
            refine wpAnyH_take (i := 8) (oi := _) (v := ?_) rfl (by kernel_rfl) (by kernel_rfl) (by kernel_rfl) (fun _ _ _ h => h) (Or.inl ⟨by rfl, ?_⟩) (by assumption) ?_
            rotate_left
            · (intro w9 hSw; (try dsimp only at hSw); go_split_ands; go_simp; try with_reducible rfl)
            try simp only [Act.put, List.setIfInBounds_toArray, List.set_cons_zero, List.set_cons_succ]
            refine wpAnyH_take (i := 9) (oi := _) (v := ?_) rfl (by kernel_rfl) (by kernel_rfl) (by kernel_rfl) (fun _ _ _ h => h) (Or.inl ⟨by rfl, ?_⟩) (by assumption) ?_
            rotate_left
            · (intro w9 hSw; (try dsimp only at hSw); go_split_ands; go_simp; try with_reducible rfl)
            try simp only [Act.put, List.setIfInBounds_toArray, List.set_cons_zero, List.set_cons_succ]
            refine wpAnyH_take (i := 11) (oi := _) (v := ?_) rfl (by kernel_rfl) (by kernel_rfl) (by kernel_rfl) (fun _ _ _ h => h) (Or.inl ⟨by rfl, ?_⟩) (by assumption) ?_
            rotate_left
            · (intro w9 hSw; (try dsimp only at hSw); go_split_ands; go_simp; try with_reducible rfl)
            try simp only [Act.put, List.setIfInBounds_toArray, List.set_cons_zero, List.set_cons_succ]
            refine wpAnyH_take (i := 13) (oi := _) (v := ?_) rfl (by kernel_rfl) (by kernel_rfl) (by kernel_rfl) (fun _ _ _ h => h) (Or.inl ⟨by rfl, ?_⟩) (by assumption) ?_
            rotate_left
            · (intro w9 hSw; (try dsimp only at hSw); go_split_ands; go_simp; try with_reducible rfl)
            try simp only [Act.put, List.setIfInBounds_toArray, List.set_cons_zero, List.set_cons_succ]
            refine wpAnyH_take (i := 14) (oi := _) (v := ?_) rfl (by kernel_rfl) (by kernel_rfl) (by kernel_rfl) (fun _ _ _ h => h) (Or.inl ⟨by rfl, ?_⟩) (by assumption) ?_
            rotate_left
            · (intro w9 hSw; (try dsimp only at hSw); go_split_ands; go_simp; try with_reducible rfl)
            try simp only [Act.put, List.setIfInBounds_toArray, List.set_cons_zero, List.set_cons_succ]
            refine wpAnyH_take (i := 15) (oi := _) (v := ?_) rfl (by kernel_rfl) (by kernel_rfl) (by kernel_rfl) (fun _ _ _ h => h) (Or.inl ⟨by rfl, ?_⟩) (by assumption) ?_
            rotate_left
            · (intro w9 hSw; (try dsimp only at hSw); go_split_ands; go_simp; try with_reducible rfl)
            try simp only [Act.put, List.setIfInBounds_toArray, List.set_cons_zero, List.set_cons_succ]
            refine wpAnyH_take (i := 16) (oi := _) (v := ?_) rfl (by kernel_rfl) (by kernel_rfl) (by kernel_rfl) (fun _ _ _ h => h) (Or.inl ⟨by rfl, ?_⟩) (by assumption) ?_
            rotate_left
            · (intro w9 hSw; (try dsimp only at hSw); go_split_ands; go_simp; try with_reducible rfl)
            try simp only [Act.put, List.setIfInBounds_toArray, List.set_cons_zero, List.set_cons_succ]
            refine wpAnyH_take (i := 18) (oi := _) (v := ?_) rfl (by kernel_rfl) (by kernel_rfl) (by kernel_rfl) (fun _ _ _ h => h) (Or.inl ⟨by rfl, ?_⟩) (by assumption) ?_
            rotate_left
            · (intro w9 hSw; (try dsimp only at hSw); go_split_ands; go_simp; try with_reducible rfl)
            try simp only [Act.put, List.setIfInBounds_toArray, List.set_cons_zero, List.set_cons_succ]
            refine wpAnyH_ready (rs := [10, 17]) (by kernel_rfl) (by simp) ?_
            refine AllReadyH.cons (o := _) rfl (fun K hK => ?_) (AllReadyH.cons (o := _) rfl (fun K hK => ?_) AllReadyH.nil)
            · skip
              go_simp
              refine hK.out _ _ ?_ (fun hHeld => ?_)
              · exact hHeld
              clear hK K
              try simp only [Act.put, List.setIfInBounds_toArray, List.set_cons_zero, List.set_cons_succ]
              refine wpAnyH_ready (rs := [12, 17]) (by kernel_rfl) (by simp) ?_
              refine AllReadyH.cons (o := _) rfl (fun K hK => ?_) (AllReadyH.cons (o := _) rfl (fun K hK => ?_) AllReadyH.nil)
              · skip
                go_simp
                go_at_call 38
                refine (hpa _).mono ?_
                rintro e w1 ⟨rfl, hb1⟩
                have HRO1 := hide (RowIs.below (w := WP.drew) HRO.out hb1)
                have u1 := (hb1.cell (p := ⟨g, n.pf j, none⟩) gl).trans u1
                have u2 := (hb1.cell (p := ⟨g, n.pt j, none⟩) gl).trans u2
                refine hK.out _ _ ?_ (fun hHeld => ?_)
                · exact blw_keep rfl rfl (blw_call hHeld.1 hb1)
                clear hK K
                try simp only [Act.put, List.setIfInBounds_toArray, List.set_cons_zero, List.set_cons_succ]
                refine wpAnyH_ready (rs := [17]) (by kernel_rfl) (by simp) ?_
                refine AllReadyH.cons (o := _) rfl (fun K hK => ?_) AllReadyH.nil
                go_simp
                refine hK.out _ _ ?_ (fun hHeld => ?_)
                · exact hHeld
                clear hK K
                try simp only [Act.put, List.setIfInBounds_toArray, List.set_cons_zero, List.set_cons_succ]
                refine wpAnyH_ready (rs := [19]) (by kernel_rfl) (by simp) ?_
                refine AllReadyH.cons (o := _) rfl (fun K hK => ?_) AllReadyH.nil
                go_simp
                go_at_call 40
                refine (hmi _).mono ?_
                rintro e w2 ⟨rfl, hb2⟩
                have HRO2 := hide (RowIs.below HRO1.out hb2)
                have v1 := HRO2.out.cell HF0.out
                have v2 := HRO2.out.cell HT0.out
                have f1 := HRO2.out.frozen (n.pf j)
                have f2 := HRO2.out.frozen (n.pt j)
                refine hK.out _ _ ?_ (fun hHeld => ?_)
                · exact blw_keep rfl rfl (blw_call hHeld.1 hb2)
                clear hK K
                try simp only [Act.put, List.setIfInBounds_toArray, List.set_cons_zero, List.set_cons_succ]
                refine wpAnyH_ready (rs := [20]) (by kernel_rfl) (by simp) ?_
                refine AllReadyH.cons (o := _) rfl (fun K hK => ?_) AllReadyH.nil
                go_simp
                refine hK.out _ _ ?_ (fun hHeld => ?_)
                · exact hHeld
                clear hK K
                try simp only [Act.put, List.setIfInBounds_toArray, List.set_cons_zero, List.set_cons_succ]
                refine wpAnyH_ready (rs := [21]) (by kernel_rfl) (by simp) ?_
                refine AllReadyH.cons (o := _) rfl (fun K hK => ?_) AllReadyH.nil
                go_simp
                refine hK.out _ _ ?_ (fun hHeld => ?_)
                · exact blw_keep rfl rfl (blw_set hHeld.1 HQ HQ2)
                clear hK K
                try simp only [Act.put, List.setIfInBounds_toArray, List.set_cons_zero, List.set_cons_succ]
                refine wpAnyH_ready (rs := [22]) (by kernel_rfl) (by simp) ?_
                refine AllReadyH.cons (o := _) rfl (fun K hK => ?_) AllReadyH.nil
                go_simp
                refine hK.out _ _ ?_ (fun hHeld => ?_)
                · exact hHeld
                clear hK K
                try simp only [Act.put, List.setIfInBounds_toArray, List.set_cons_zero, List.set_cons_succ]
                refine wpAnyH_ready (rs := [23]) (by kernel_rfl) (by simp) ?_
                refine AllReadyH.cons (o := _) rfl (fun K hK => ?_) AllReadyH.nil
                go_simp
                refine hK.out _ _ ?_ (fun hHeld => ?_)
                · exact blw_keep rfl rfl (blw_set hHeld.1 HQ HQ2)
                clear hK K
                try simp only [Act.put, List.setIfInBounds_toArray, List.set_cons_zero, List.set_cons_succ]
                refine wpAnyH_done (by kernel_rfl) ?_ _
                have HR2 := hide ((HRO2.out.set_ (k := n.pf j) (v := str x3) (f' := fun k => if k = n.pf j then str x3 else aw0 k) (by simp) (fun k _ h => by simp [h])).set_ (k := n.pt j) (v := str x4) (f' := aw1) HD4.out (fun k hk h => by
                  by_cases h2 : k = n.pf j
                  · subst h2; rw [if_pos rfl, HD3.out]
                  · rw [if_neg h2, HAW.out k hk h2 h]))
                have HS := hHeld.1.out
                generalize (w2.setCell ⟨g, n.pf j, none⟩ (str x3)).setCell ⟨g, n.pt j, none⟩ (str x4) = WS at HR2 HS ⊢
                have HRO := HR2
                have HBZ := hide HS.1
                have HP := hide HS.2
                have c3 := HP.out.cell 3
                have cL := HP.out.lt
                simp at c3
                clear u1 u2 v1 v2 f1 f2 HR2 HS HRO1 HRO2 hb1 hb2 hHeld
                go_wp2_with fail
                have c3g := grown_cell cL c3
                refine wp_region_grown (by kernel_rfl) (by kernel_rfl) ?_
                repeat (quiet_step (first | (go_at_call 39; exact call_grown (htm _)) | (go_at_call 69; exact call_grown (hov _)) | (go_at_call 38; exact call_grown (hpb _))))
                refine wpQuiet_nil ?_
                rintro w9 ⟨t9, rfl⟩
                clear c3g
                have hbB := grown_below WS t9
                have HRO_ := hide (HRO.out.below hbB)
                have HBZ_ := hide (ext HBZ.out hbB)
                have HP_ := hide (HP.out.below hbB)
                clear HRO HBZ HP
                have HRO := HRO_
                have HBZ := HBZ_
                have HP := HP_
                clear HRO_ HBZ_ HP_
                generalize grown WS t9 = WV at hbB HRO HBZ HP ⊢
                clear t9
                clear c3 cL hbB htm hov hpb
                go_wp2_with fail
                go_round
                case rel => exact ⟨j + 1, by omega, by go_num, congrArg str HNX.out.symm, by rw [HA1.out]; exact HRO, HBZ⟩
                case measure => simp [intOf]; omega
              · skip
                go_simp
                refine hK.out _ _ ?_ (fun hHeld => ?_)
                · exact hHeld
                clear hK K
                try simp only [Act.put, List.setIfInBounds_toArray, List.set_cons_zero, List.set_cons_succ]
                refine wpAnyH_ready (rs := [12]) (by kernel_rfl) (by simp) ?_
                refine AllReadyH.cons (o := _) rfl (fun K hK => ?_) AllReadyH.nil
                go_simp
                go_at_call 38
                refine (hpa _).mono ?_
                rintro e w1 ⟨rfl, hb1⟩
                have HRO1 := hide (RowIs.below (w := WP.drew) HRO.out hb1)
                have u1 := (hb1.cell (p := ⟨g, n.pf j, none⟩) gl).trans u1
                have u2 := (hb1.cell (p := ⟨g, n.pt j, none⟩) gl).trans u2
                refine hK.out _ _ ?_ (fun hHeld => ?_)
                · exact blw_keep rfl rfl (blw_call hHeld.1 hb1)
                clear hK K
                try simp only [Act.put, List.setIfInBounds_toArray, List.set_cons_zero, List.set_cons_succ]
                refine wpAnyH_ready (rs := [19]) (by kernel_rfl) (by simp) ?_
                refine AllReadyH.cons (o := _) rfl (fun K hK => ?_) AllReadyH.nil
                go_simp
                go_at_call 40
                refine (hmi _).mono ?_
                rintro e w2 ⟨rfl, hb2⟩
                have HRO2 := hide (RowIs.below HRO1.out hb2)
                have v1 := HRO2.out.cell HF0.out
                have v2 := HRO2.out.cell HT0.out
                have f1 := HRO2.out.frozen (n.pf j)
                have f2 := HRO2.out.frozen (n.pt j)
                refine hK.out _ _ ?_ (fun hHeld => ?_)
                · exact blw_keep rfl rfl (blw_call hHeld.1 hb2)
                clear hK K
                try simp only [Act.put, List.setIfInBounds_toArray, List.set_cons_zero, List.set_cons_succ]
                refine wpAnyH_ready (rs := [20]) (by kernel_rfl) (by simp) ?_
                refine AllReadyH.cons (o := _) rfl (fun K hK => ?_) AllReadyH.nil
                go_simp
                refine hK.out _ _ ?_ (fun hHeld => ?_)
                · exact hHeld
                clear hK K
                try simp only [Act.put, List.setIfInBounds_toArray, List.set_cons_zero, List.set_cons_succ]
                refine wpAnyH_ready (rs := [21]) (by kernel_rfl) (by simp) ?_
                refine AllReadyH.cons (o := _) rfl (fun K hK => ?_) AllReadyH.nil
                go_simp
                refine hK.out _ _ ?_ (fun hHeld => ?_)
                · exact blw_keep rfl rfl (blw_set hHeld.1 HQ HQ2)
                clear hK K
                try simp only [Act.put, List.setIfInBounds_toArray, List.set_cons_zero, List.set_cons_succ]
                refine wpAnyH_ready (rs := [22]) (by kernel_rfl) (by simp) ?_
                refine AllReadyH.cons (o := _) rfl (fun K hK => ?_) AllReadyH.nil
                go_simp
                refine hK.out _ _ ?_ (fun hHeld => ?_)
                · exact hHeld
                clear hK K
                try simp only [Act.put, List.setIfInBounds_toArray, List.set_cons_zero, List.set_cons_succ]
                refine wpAnyH_ready (rs := [23]) (by kernel_rfl) (by simp) ?_
                refine AllReadyH.cons (o := _) rfl (fun K hK => ?_) AllReadyH.nil
                go_simp
                refine hK.out _ _ ?_ (fun hHeld => ?_)
                · exact blw_keep rfl rfl (blw_set hHeld.1 HQ HQ2)
                clear hK K
                try simp only [Act.put, List.setIfInBounds_toArray, List.set_cons_zero, List.set_cons_succ]
                refine wpAnyH_done (by kernel_rfl) ?_ _
                have HR2 := hide ((HRO2.out.set_ (k := n.pf j) (v := str x3) (f' := fun k => if k = n.pf j then str x3 else aw0 k) (by simp) (fun k _ h => by simp [h])).set_ (k := n.pt j) (v := str x4) (f' := aw1) HD4.out (fun k hk h => by
                  by_cases h2 : k = n.pf j
                  · subst h2; rw [if_pos rfl, HD3.out]
                  · rw [if_neg h2, HAW.out k hk h2 h]))
                have HS := hHeld.1.out
                generalize (w2.setCell ⟨g, n.pf j, none⟩ (str x3)).setCell ⟨g, n.pt j, none⟩ (str x4) = WS at HR2 HS ⊢
                have HRO := HR2
                have HBZ := hide HS.1
                have HP := hide HS.2
                have c3 := HP.out.cell 3
                have cL := HP.out.lt
                simp at c3
                clear u1 u2 v1 v2 f1 f2 HR2 HS HRO1 HRO2 hb1 hb2 hHeld
                go_wp2_with fail
                have c3g := grown_cell cL c3
                refine wp_region_grown (by kernel_rfl) (by kernel_rfl) ?_
                repeat (quiet_step (first | (go_at_call 39; exact call_grown (htm _)) | (go_at_call 69; exact call_grown (hov _)) | (go_at_call 38; exact call_grown (hpb _))))
                refine wpQuiet_nil ?_
                rintro w9 ⟨t9, rfl⟩
                clear c3g
                have hbB := grown_below WS t9
                have HRO_ := hide (HRO.out.below hbB)
                have HBZ_ := hide (ext HBZ.out hbB)
                have HP_ := hide (HP.out.below hbB)
                clear HRO HBZ HP
                have HRO := HRO_
                have HBZ := HBZ_
                have HP := HP_
                clear HRO_ HBZ_ HP_
                generalize grown WS t9 = WV at hbB HRO HBZ HP ⊢
                clear t9
                clear c3 cL hbB htm hov hpb
                go_wp2_with fail
                go_round
                case rel => exact ⟨j + 1, by omega, by go_num, congrArg str HNX.out.symm, by rw [HA1.out]; exact HRO, HBZ⟩
                case measure => simp [intOf]; omega
            · skip
              go_simp
              refine hK.out _ _ ?_ (fun hHeld => ?_)
              · exact hHeld
              clear hK K
              try simp only [Act.put, List.setIfInBounds_toArray, List.set_cons_zero, List.set_cons_succ]
              refine wpAnyH_ready (rs := [10]) (by kernel_rfl) (by simp) ?_
              refine AllReadyH.cons (o := _) rfl (fun K hK => ?_) AllReadyH.nil
              go_simp
              refine hK.out _ _ ?_ (fun hHeld => ?_)
              · exact hHeld
              clear hK K
              try simp only [Act.put, List.setIfInBounds_toArray, List.set_cons_zero, List.set_cons_succ]
              refine wpAnyH_ready (rs := [12]) (by kernel_rfl) (by simp) ?_
              refine AllReadyH.cons (o := _) rfl (fun K hK => ?_) AllReadyH.nil
              go_simp
              go_at_call 38
              refine (hpa _).mono ?_
              rintro e w1 ⟨rfl, hb1⟩
              have HRO1 := hide (RowIs.below (w := WP.drew) HRO.out hb1)
              have u1 := (hb1.cell (p := ⟨g, n.pf j, none⟩) gl).trans u1
              have u2 := (hb1.cell (p := ⟨g, n.pt j, none⟩) gl).trans u2
              refine hK.out _ _ ?_ (fun hHeld => ?_)
              · exact blw_keep rfl rfl (blw_call hHeld.1 hb1)
              clear hK K
              try simp only [Act.put, List.setIfInBounds_toArray, List.set_cons_zero, List.set_cons_succ]
              refine wpAnyH_ready (rs := [19]) (by kernel_rfl) (by simp) ?_
              refine AllReadyH.cons (o := _) rfl (fun K hK => ?_) AllReadyH.nil
              go_simp
              go_at_call 40
              refine (hmi _).mono ?_
              rintro e w2 ⟨rfl, hb2⟩
              have HRO2 := hide (RowIs.below HRO1.out hb2)
              have v1 := HRO2.out.cell HF0.out
              have v2 := HRO2.out.cell HT0.out
              have f1 := HRO2.out.frozen (n.pf j)
              have f2 := HRO2.out.frozen (n.pt j)
              refine hK.out _ _ ?_ (fun hHeld => ?_)
              · exact blw_keep rfl rfl (blw_call hHeld.1 hb2)
              clear hK K
              try simp only [Act.put, List.setIfInBounds_toArray, List.set_cons_zero, List.set_cons_succ]
              refine wpAnyH_ready (rs := [20]) (by kernel_rfl) (by simp) ?_
              refine AllReadyH.cons (o := _) rfl (fun K hK => ?_) AllReadyH.nil
              go_simp
              refine hK.out _ _ ?_ (fun hHeld => ?_)
              · exact hHeld
              clear hK K
              try simp only [Act.put, List.setIfInBounds_toArray, List.set_cons_zero, List.set_cons_succ]
              refine wpAnyH_ready (rs := [21]) (by kernel_rfl) (by simp) ?_
              refine AllReadyH.cons (o := _) rfl (fun K hK => ?_) AllReadyH.nil
              go_simp
              refine hK.out _ _ ?_ (fun hHeld => ?_)
              · exact blw_keep rfl rfl (blw_set hHeld.1 HQ HQ2)
              clear hK K
              try simp only [Act.put, List.setIfInBounds_toArray, List.set_cons_zero, List.set_cons_succ]
              refine wpAnyH_ready (rs := [22]) (by kernel_rfl) (by simp) ?_
              refine AllReadyH.cons (o := _) rfl (fun K hK => ?_) AllReadyH.nil
              go_simp
              refine hK.out _ _ ?_ (fun hHeld => ?_)
              · exact hHeld
              clear hK K
              try simp only [Act.put, List.setIfInBounds_toArray, List.set_cons_zero, List.set_cons_succ]
              refine wpAnyH_ready (rs := [23]) (by kernel_rfl) (by simp) ?_
              refine AllReadyH.cons (o := _) rfl (fun K hK => ?_) AllReadyH.nil
              go_simp
              refine hK.out _ _ ?_ (fun hHeld => ?_)
              · exact blw_keep rfl rfl (blw_set hHeld.1 HQ HQ2)
              clear hK K
              try simp only [Act.put, List.setIfInBounds_toArray, List.set_cons_zero, List.set_cons_succ]
              refine wpAnyH_done (by kernel_rfl) ?_ _
              have HR2 := hide ((HRO2.out.set_ (k := n.pf j) (v := str x3) (f' := fun k => if k = n.pf j then str x3 else aw0 k) (by simp) (fun k _ h => by simp [h])).set_ (k := n.pt j) (v := str x4) (f' := aw1) HD4.out (fun k hk h => by
                by_cases h2 : k = n.pf j
                · subst h2; rw [if_pos rfl, HD3.out]
                · rw [if_neg h2, HAW.out k hk h2 h]))
              have HS := hHeld.1.out
              generalize (w2.setCell ⟨g, n.pf j, none⟩ (str x3)).setCell ⟨g, n.pt j, none⟩ (str x4) = WS at HR2 HS ⊢
              have HRO := HR2
              have HBZ := hide HS.1
              have HP := hide HS.2
              have c3 := HP.out.cell 3
              have cL := HP.out.lt
              simp at c3
              clear u1 u2 v1 v2 f1 f2 HR2 HS HRO1 HRO2 hb1 hb2 hHeld
              go_wp2_with fail
              have c3g := grown_cell cL c3
              refine wp_region_grown (by kernel_rfl) (by kernel_rfl) ?_
              repeat (quiet_step (first | (go_at_call 39; exact call_grown (htm _)) | (go_at_call 69; exact call_grown (hov _)) | (go_at_call 38; exact call_grown (hpb _))))
              refine wpQuiet_nil ?_
              rintro w9 ⟨t9, rfl⟩
              clear c3g
              have hbB := grown_below WS t9
              have HRO_ := hide (HRO.out.below hbB)
              have HBZ_ := hide (ext HBZ.out hbB)
              have HP_ := hide (HP.out.below hbB)
              clear HRO HBZ HP
              have HRO := HRO_
              have HBZ := HBZ_
              have HP := HP_
              clear HRO_ HBZ_ HP_
              generalize grown WS t9 = WV at hbB HRO HBZ HP ⊢
              clear t9
              clear c3 cL hbB htm hov hpb
              go_wp2_with fail
              go_round
              case rel => exact ⟨j + 1, by omega, by go_num, congrArg str HNX.out.symm, by rw [HA1.out]; exact HRO, HBZ⟩
              case measure => simp [intOf]; omega
          · obtain rfl : k1 = j := by omega
            obtain ⟨WL, rfl⟩ : ∃ WL, WL = wr := ⟨_, rfl⟩
            have HRF := HRO
            have HWL := hide (ext HW.out HBZ.out)
            clear HRO HBZ
            have HLN := hide (show lossTo k1 (lowOf n) (condOf fs) = lossTo n.pipes.length (lowOf n) (condOf fs) by rw [HK1.out])
            rw [HLN.out]
            have HDN : Hid (∀ k, divOf k1 n.pf n.pt (condOf fs) k = divOf n.pipes.length n.pf n.pt (condOf fs) k) := hide (fun k => by rw [HK1.out])
            go_wp2_with fail
            go_loopw [89] (BlwC k0 (fun k => divOf n.pipes.length n.pf n.pt (condOf fs) k = wantT an bn k) WL) (fun iv _ => k0 - (intOf iv).toNat)
            case atStart => exact ⟨0, Nat.zero_le _, rfl, hide (fun j h => absurd h (Nat.not_lt_zero _)), hide (ext_refl WL)⟩
            case round =>
              obtain ⟨k, hk, rfl, HOK, HWR⟩ := hrel
              by_cases hkl : k < k0
              · have hkk : (k : Int) < (k0 : Int) := by omega
                have u1 := (HRF.out.below HWR.out).cell hkl
                unfold awayF at u1
                rw [HDN.out] at u1
                have H8 : Hid (divOf n.pipes.length n.pf n.pt (condOf fs) k ≠ wantT an bn k → y = 8) := hide (fun h => by
                  rw [← HY2.out, if_neg]
                  intro hu
                  exact h (hu k (by have := HK0.out; omega)))
                have HNX : Hid (divOf n.pipes.length n.pf n.pt (condOf fs) k = wantT an bn k → ∀ j, j < k + 1 → divOf n.pipes.length n.pf n.pt (condOf fs) j = wantT an bn j) := hide (fun h j hj => by
                  rcases Nat.lt_or_ge j k with h1 | h1
                  · exact HOK.out j h1
                  · obtain rfl : j = k := by omega
                    exact h)
                by_cases g1 : k = an
                · have hI1 : ((k : Int) == (an : Int)) = true := by rw [beq_iff_eq, g1]
                  have hwt : wantT an bn k = 1 := by unfold wantT; rw [if_pos g1]
                  have HWT := hide hwt
                  clear g1 hwt
                  by_cases hw : divOf n.pipes.length n.pf n.pt (condOf fs) k = 1
                  · have HNX := hide (HNX.out (hw.trans HWT.out.symm))
                    rw [hw, frac_one] at u1
                    clear hw
                    go_wp2_with fail
                    go_round
                    case rel => exact ⟨k + 1, by omega, by go_num, HNX, HWR⟩
                    case measure => simp [intOf]; omega
                  · have hyz := hide (H8.out (by rw [HWT.out]; exact hw))
                    have hI3 : (fracText (divOf n.pipes.length n.pf n.pt (condOf fs) k) == [49]) = false := by
                      rw [beq_eq_false_iff_ne, ← frac_one]
                      exact fun h => hw (fracText_inj h)
                    generalize fracText (divOf n.pipes.length n.pf n.pt (condOf fs) k) = tx at u1 hI3
                    clear hw
                    go_wp2_with fail
                    go_ret2
                    rw [hyz.out]
                    exact ⟨ext HWL.out HWR.out, .inl ⟨by decide, rfl⟩⟩
                · have hI1 : ((k : Int) == (an : Int)) = false := by rw [beq_eq_false_iff_ne]; omega
                  by_cases g2 : k = bn
                  · have hI2 : ((k : Int) == (bn : Int)) = true := by rw [beq_iff_eq, g2]
                    have hwt : wantT an bn k = -1 := by unfold wantT; rw [if_neg g1, if_pos g2]
                    have HWT := hide hwt
                    clear g1 g2 hwt
                    by_cases hw : divOf n.pipes.length n.pf n.pt (condOf fs) k = -1
                    · have HNX := hide (HNX.out (hw.trans HWT.out.symm))
                      rw [hw, frac_neg1] at u1
                      clear hw
                      go_wp2_with fail
                      go_round
                      case rel => exact ⟨k + 1, by omega, by go_num, HNX, HWR⟩
                      case measure => simp [intOf]; omega
                    · have hyz := hide (H8.out (by rw [HWT.out]; exact hw))
                      have hI3 : (fracText (divOf n.pipes.length n.pf n.pt (condOf fs) k) == [45,49]) = false := by
                        rw [beq_eq_false_iff_ne, ← frac_neg1]
                        exact fun h => hw (fracText_inj h)
                      generalize fracText (divOf n.pipes.length n.pf n.pt (condOf fs) k) = tx at u1 hI3
                      clear hw
                      go_wp2_with fail
                      go_ret2
                      rw [hyz.out]
                      exact ⟨ext HWL.out HWR.out, .inl ⟨by decide, rfl⟩⟩
                  · have hI2 : ((k : Int) == (bn : Int)) = false := by rw [beq_eq_false_iff_ne]; omega
                    have hwt : wantT an bn k = 0 := by unfold wantT; rw [if_neg g1, if_neg g2]
                    have HWT := hide hwt
                    clear g1 g2 hwt
                    by_cases hw : divOf n.pipes.length n.pf n.pt (condOf fs) k = 0
                    · have HNX := hide (HNX.out (hw.trans HWT.out.symm))
                      rw [hw, frac_zero] at u1
                      clear hw
                      go_wp2_with fail
                      go_round
                      case rel => exact ⟨k + 1, by omega, by go_num, HNX, HWR⟩
                      case measure => simp [intOf]; omega
                    · have hyz := hide (H8.out (by rw [HWT.out]; exact hw))
                      have hI3 : (fracText (divOf n.pipes.length n.pf n.pt (condOf fs) k) == [48]) = false := by
                        rw [beq_eq_false_iff_ne, ← frac_zero]
                        exact fun h => hw (fracText_inj h)
                      generalize fracText (divOf n.pipes.length n.pf n.pt (condOf fs) k) = tx at u1 hI3
                      clear hw
                      go_wp2_with fail
                      go_ret2
                      rw [hyz.out]
                      exact ⟨ext HWL.out HWR.out, .inl ⟨by decide, rfl⟩⟩
              · obtain rfl : k0 = k := by omega
                have hu : UnitFlow n.nodes.length n.pipes.length n.pf n.pt an bn (condOf fs) := fun k hk => HOK.out k (by have := HK0.out; omega)
                have hyz : Hid (y = 0) := hide (by rw [← HY2.out, if_pos hu])
                have hlp : 0 < lossTo n.pipes.length (lowOf n) (condOf fs) := loss_pos (fun i hi => (Net.bounds HP3.out hi).2.2.2.2.1) _ (Nat.le_refl _) (hu.some HAN.out)
                have hld := HT.out.sum HNP.out (Nat.le_refl _)
                have hl0 : lossTo n.pipes.length (lowOf n) (condOf fs) ≠ 0 := by grind
                have hov := fun w' => wq_over w' (Dz.short dz_one (by omega)) (hld.short (by omega)) hl0 ((hld.inv hl0).short (by omega))
                rw [frac_one] at hov
                have hne : (fracText (1 / lossTo n.pipes.length (lowOf n) (condOf fs)) == []) = false := by rw [beq_eq_false_iff_ne]; exact fracText_ne _
                clear hu hlp hld hl0
                go_wp2_with fail
                refine (hov _).mono ?_
                rintro e WN ⟨rfl, hbB⟩
                have HWR_ := hide (ext HWR.out hbB)
                clear HWR
                have HWR := HWR_
                clear HWR_
                clear hbB
                clear hov
                go_wp2_with fail
                go_ret2
                exact ⟨ext HWL.out HWR.out, .inr ⟨hyz.out, rfl⟩⟩
  · have hI : (x != 0) = true := by rw [bne_iff_ne]; exact h0
    have hyz : Hid (y = x) := hide (by have := HY.out; rw [if_pos h0] at this; exact this.symm)
    have HNE := hide h0
    clear h0 HY
    go_wp2_with fail
    go_ret2
    rw [hyz.out]
    exact ⟨HW.out, .inl ⟨HNE.out, rfl⟩⟩
end Go.Proofs.YtdecgcdkaaiglaaGreat
namespace Go.Proofs.YtdecgcdkaaiglaaGreat
open Go.RowKit Go.Deep
theorem pow_le_more (F : Nat) : 10 ^ (F + 1) ≤ 10 ^ (F + 3) := Nat.pow_le_pow_right (by omega) (by omega)
/-- texts as numbers have a common denominator -/
theorem len_dz {l : List UInt8} {q : Rat} (h : l = fracText q) : q.num.natAbs * q.den ≤ 10 ^ l.length ∧ q.den ≤ 10 ^ l.length ∧ q.num.natAbs ≤ 10 ^ l.length := by
  have h1 : q.num.natAbs < 10 ^ (dec q.num.natAbs).length := lt_of_dec_length (Nat.le_refl _)
  have h2 : q.den < 10 ^ (dec q.den).length := lt_of_dec_length (Nat.le_refl _)
  have hd : 0 < q.den := q.den_pos
  have hlen : (dec q.num.natAbs).length ≤ l.length := by
    rw [h]; unfold fracText; rw [List.length_append, List.length_append]; omega
  by_cases h0 : q.den = 1
  · have := Nat.pow_le_pow_right (n := 10) (by omega) hlen
    rw [h0]
    have h3 : 0 < 10 ^ l.length := Nat.pow_pos (by omega)
    omega
  · have hlen2 : (dec q.num.natAbs).length + (dec q.den).length ≤ l.length := by
      rw [h]; unfold fracText; rw [List.length_append, List.length_append, if_neg h0, List.length_cons]; omega
    have h3 := Nat.pow_le_pow_right (n := 10) (by omega) hlen2
    rw [Nat.pow_add] at h3
    have h4 : q.num.natAbs * q.den ≤ 10 ^ (dec q.num.natAbs).length * 10 ^ (dec q.den).length := Nat.mul_le_mul (Nat.le_of_lt h1) (Nat.le_of_lt h2)
    have h5 := Nat.pow_le_pow_right (n := 10) (by omega) (show (dec q.den).length ≤ l.length by omega)
    have h6 := Nat.pow_le_pow_right (n := 10) (by omega) hlen
    omega
theorem sumLen_cons {α : Type} (f : α → Nat) (x : α) (l : List α) : sumLen f (x :: l) = f x + sumLen f l := by simp [sumLen]
theorem texts_common : ∀ (l : List (List UInt8)) (q : Nat → Rat), (∀ i (h : i < l.length), l[i] = fracText (q i)) → Common l.length q (sumLen List.length l)
  | [], q, _ => ⟨1, by decide, Nat.pow_pos (by omega), fun k hk => absurd hk (Nat.not_lt_zero _)⟩
  | x :: l, q, h => by
    obtain ⟨T, t1, t2, t3⟩ := texts_common l (fun i => q (i + 1)) (fun i hi => by have := h (i + 1) (by simpa using hi); simpa using this)
    have hx := len_dz (h 0 (by simp))
    simp only [List.getElem_cons_zero] at hx
    have e : (10 : Nat) ^ sumLen List.length (x :: l) = 10 ^ x.length * 10 ^ sumLen List.length l := by rw [sumLen_cons, Nat.pow_add]
    refine ⟨((q 0).den : Int) * T, Int.mul_ne_zero (by have := (q 0).den_pos; omega) t1, ?_, ?_⟩
    · rw [Int.natAbs_mul, Int.natAbs_natCast, e]
      exact Nat.mul_le_mul hx.2.1 t2
    · intro k hk
      cases k with
      | zero =>
        refine ((MulQ.den (q 0)).scale T).mono ?_
        rw [e]; exact Nat.mul_le_mul hx.2.2 t2
      | succ k =>
        refine ((t3 k (by simpa using hk)).scale' ((q 0).den : Int)).mono ?_
        rw [e, Int.natAbs_natCast]; exact Nat.mul_le_mul hx.2.1 (Nat.le_refl _)
theorem long_common {n : Net} {a b : Int} {gs : List (List UInt8)} {many : Int} {N E : Nat} (hl : isLong gs = false) (h : givErr n a b gs many = 0) (hN : many = (N : Int)) (hE : 1500 ≤ E) : Common N (condOf gs) E := by
  obtain ⟨_, _, h3, h4⟩ := givErr_ok h
  have h1 := (isLong_small hl).1
  unfold isLong at hl
  rw [decide_eq_false_iff_not, List.take_of_length_le (by omega)] at hl
  have := (texts_common gs (condOf gs) (fun i hi => (h4 i hi).1)).more (show sumLen List.length gs ≤ E by omega)
  rw [show gs.length = N by omega] at this
  exact this
/-- a pipe of one conductance -/
def Pipe.one (p : Pipe) (c : List UInt8) : Pipe := ⟨p.name, p.from_, p.to_, c, c⟩
def onePipes (l : List Pipe) (cs : List (List UInt8)) (i : Nat) : List Pipe := (List.range l.length).map fun j => if j < i then (l.getD j default).one (cs.getD j []) else l.getD j default
theorem onePipes_length (l : List Pipe) (cs : List (List UInt8)) (i : Nat) : (onePipes l cs i).length = l.length := by simp [onePipes]
theorem onePipes_get {l : List Pipe} {cs : List (List UInt8)} {i j : Nat} (hj : j < (onePipes l cs i).length) : (onePipes l cs i)[j] = if j < i then (l.getD j default).one (cs.getD j []) else l.getD j default := by simp [onePipes]
theorem onePipes_zero (l : List Pipe) (cs : List (List UInt8)) : onePipes l cs 0 = l := by
  apply List.ext_getElem (onePipes_length _ _ _)
  intro j h1 h2
  rw [onePipes_get, if_neg (by omega)]
  simp [List.getD, List.getElem?_eq_getElem h2]
theorem onePipes_set {l : List Pipe} {cs : List (List UInt8)} {i : Nat} (hi : i < l.length) : (onePipes l cs i).set i ((l.getD i default).one (cs.getD i [])) = onePipes l cs (i + 1) := by
  apply List.ext_getElem (by simp [onePipes_length])
  intro j h1 h2
  rw [List.getElem_set]
  by_cases h : i = j
  · subst h; rw [if_pos rfl, onePipes_get, if_pos (by omega)]
  · rw [if_neg h, onePipes_get, onePipes_get]
    by_cases h3 : j < i
    · rw [if_pos h3, if_pos (by omega)]
    · rw [if_neg h3, if_neg (by omega)]
/-- a net with these conductances alone, with the heads 1 and 0 at both nodes -/
def oneNet (n : Net) (cs : List (List UInt8)) (a b : Nat) : Net := ⟨n.nodes, onePipes n.pipes cs n.pipes.length, levAB a b, []⟩
section
variable {n : Net} {cs : List (List UInt8)} {a b : Nat}
theorem onePipes_getD {l : List Pipe} {j : Nat} (hj : j < l.length) : (onePipes l cs l.length).getD j default = (l.getD j default).one (cs.getD j []) := by
  have h : j < (onePipes l cs l.length).length := by rw [onePipes_length]; exact hj
  rw [List.getD, List.getElem?_eq_getElem h, Option.getD_some, onePipes_get, if_pos hj]
theorem onePipes_over {l : List Pipe} {j : Nat} (hj : ¬ j < l.length) : (onePipes l cs l.length).getD j default = l.getD j default := by
  have h : ¬ j < (onePipes l cs l.length).length := by rw [onePipes_length]; exact hj
  rw [List.getD, List.getElem?_eq_none (by omega), List.getD, List.getElem?_eq_none (by omega)]
theorem one_pf : (oneNet n cs a b).pf = n.pf := by
  funext j
  unfold Net.pf oneNet
  by_cases h : j < n.pipes.length
  · simp only; rw [onePipes_getD h]; rfl
  · simp only; rw [onePipes_over h]
theorem one_pt : (oneNet n cs a b).pt = n.pt := by
  funext j
  unfold Net.pt oneNet
  by_cases h : j < n.pipes.length
  · simp only; rw [onePipes_getD h]; rfl
  · simp only; rw [onePipes_over h]
theorem one_np : (oneNet n cs a b).pipes.length = n.pipes.length := onePipes_length _ _ _
theorem one_names (i : Nat) : ((oneNet n cs a b).pipes.take i).map (·.name) = (n.pipes.take i).map (·.name) := by
  rw [List.map_take, List.map_take]
  congr 1
  apply List.ext_getElem (by simp [one_np])
  intro j h1 h2
  have hj : j < n.pipes.length := by simpa using h2
  have hj2 : j < (onePipes n.pipes cs n.pipes.length).length := by rw [onePipes_length]; exact hj
  rw [List.getElem_map, List.getElem_map]
  show ((onePipes n.pipes cs n.pipes.length)[j]'hj2).name = _
  rw [onePipes_get, if_pos hj]
  simp [List.getD, List.getElem?_eq_getElem hj, Pipe.one]
theorem numErr_text {q : Rat} (h : Short 12 q) : numErr (fracText q) = 0 ∧ numOf (fracText q) = q := by
  have h1 := readFrac_text (Dz.short (Short.sz h) (show 12 < 50000 by omega))
  unfold numErr numOf
  rw [h1]
  exact ⟨by simp only; rw [if_pos h], rfl⟩
def pErrOf (N : Nat) (ns : List (List UInt8)) (p : Pipe) : Int :=
  if isName p.name = false then 5
  else if p.name ∈ ns then 6
  else if p.from_ < 0 ∨ (N : Int) ≤ p.from_ ∨ p.to_ < 0 ∨ (N : Int) ≤ p.to_ then 7
  else if p.from_ = p.to_ then 1
  else if numErr p.low ≠ 0 then numErr p.low
  else if numErr p.high ≠ 0 then numErr p.high
  else if numOf p.low ≤ 0 ∨ numOf p.high < numOf p.low then 1 else 0
theorem pErrOf_eq (n : Net) (i : Nat) : n.pipeErr i = pErrOf n.nodes.length ((n.pipes.take i).map (·.name)) (n.pipes.getD i default) := rfl
theorem pErrOf_ok {N : Nat} {ns : List (List UInt8)} {p : Pipe} : pErrOf N ns p = 0 ↔ ¬ isName p.name = false ∧ ¬ p.name ∈ ns ∧ ¬ (p.from_ < 0 ∨ (N : Int) ≤ p.from_ ∨ p.to_ < 0 ∨ (N : Int) ≤ p.to_) ∧ ¬ p.from_ = p.to_ ∧ numErr p.low = 0 ∧ numErr p.high = 0 ∧ ¬ (numOf p.low ≤ 0 ∨ numOf p.high < numOf p.low) := by
  unfold pErrOf
  by_cases g1 : isName p.name = false
  · simp [g1]
  by_cases g2 : p.name ∈ ns
  · simp [g1, g2]
  by_cases g3 : p.from_ < 0 ∨ (N : Int) ≤ p.from_ ∨ p.to_ < 0 ∨ (N : Int) ≤ p.to_
  · rw [if_neg g1, if_neg g2, if_pos g3]
    exact ⟨fun h => (by cases h), fun h => absurd g3 h.2.2.1⟩
  by_cases g4 : p.from_ = p.to_
  · rw [if_neg g1, if_neg g2, if_neg g3, if_pos g4]
    exact ⟨fun h => (by cases h), fun h => absurd g4 h.2.2.2.1⟩
  by_cases g5 : numErr p.low = 0
  · by_cases g6 : numErr p.high = 0
    · by_cases g7 : numOf p.low ≤ 0 ∨ numOf p.high < numOf p.low
      · rw [if_neg g1, if_neg g2, if_neg g3, if_neg g4, if_neg (fun h => h g5), if_neg (fun h => h g6), if_pos g7]
        exact ⟨fun h => (by cases h), fun h => absurd g7 h.2.2.2.2.2.2⟩
      · rw [if_neg g1, if_neg g2, if_neg g3, if_neg g4, if_neg (fun h => h g5), if_neg (fun h => h g6), if_neg g7]
        exact ⟨fun _ => ⟨g1, g2, g3, g4, g5, g6, g7⟩, fun _ => rfl⟩
    · rw [if_neg g1, if_neg g2, if_neg g3, if_neg g4, if_neg (fun h => h g5), if_pos g6]
      exact ⟨fun h => absurd h g6, fun h => absurd h.2.2.2.2.2.1 g6⟩
  · rw [if_neg g1, if_neg g2, if_neg g3, if_neg g4, if_pos g5]
    exact ⟨fun h => absurd h g5, fun h => absurd h.2.2.2.2.1 g5⟩
theorem one_pipeErr (h0 : n.P3) (hc : condErr n cs = 0) {i : Nat} (hi : i < n.pipes.length) : (oneNet n cs a b).pipeErr i = 0 := by
  obtain ⟨hl, hcs⟩ := cond_get hc
  have h1 := firstErr_all.1 h0.2.2 i hi
  have h2 := hcs i (by omega)
  have e : cs.getD i [] = cs[i] := by simp [List.getD, List.getElem?_eq_getElem (show i < cs.length by omega)]
  have h3 := numErr_text h2.2.1
  rw [← h2.1] at h3
  have h4 : numOf (cs.getD i []) = numOf cs[i] := by rw [e]
  have hp : 0 < numOf cs[i] := by have := h2.2.2; rw [h4] at this; exact this
  have e2 : (oneNet n cs a b).pipes.getD i default = (n.pipes.getD i default).one (cs.getD i []) := onePipes_getD hi
  rw [pErrOf_eq] at h1 ⊢
  rw [one_names, e2, e]
  obtain ⟨g1, g2, g3, g4, _, _, _⟩ := pErrOf_ok.1 h1
  exact pErrOf_ok.2 ⟨g1, g2, g3, g4, h3.1, h3.1, by show ¬ (numOf cs[i] ≤ 0 ∨ numOf cs[i] < numOf cs[i]); grind⟩
theorem levAB_err {n : Net} {a b : Int} (ha : 0 ≤ a ∧ a < n.nodes.length) (hb : 0 ≤ b ∧ b < n.nodes.length) (hne : a ≠ b) : firstErr (levAB a b).length (n.levelErr (levAB a b)) = 0 := by
  have h1 := (numErr_text (q := 1) (short_nat (k := 1) (by omega))).1
  rw [frac_one] at h1
  have h0 := (numErr_text (q := 0) (Dz.short (Dz.zero 1) (by omega))).1
  rw [frac_zero] at h0
  refine firstErr_all.2 fun k hk => ?_
  have hk2 : k = 0 ∨ k = 1 := by simp [levAB] at hk; omega
  unfold Net.levelErr
  rcases hk2 with rfl | rfl
  · simp only [levAB, List.getD_cons_zero, List.take_zero, List.map_nil, List.not_mem_nil, if_false]
    rw [if_neg (by omega), h1]
  · simp only [levAB, List.getD_cons_succ, List.getD_cons_zero, List.take_succ_cons, List.take_zero, List.map_cons, List.map_nil, List.mem_singleton]
    rw [if_neg (by omega), if_neg (fun h => hne h.symm), h0]
theorem one_P5 (h0 : n.err = 0) (hc : condErr n cs = 0) (he : endErr n a b = 0) : (oneNet n cs a b).P5 := by
  obtain ⟨e1, e2, e3, e4, e5, _⟩ := endErr_ok he
  have h3 := (Net.err_zero h0).1.1.1
  refine ⟨⟨⟨⟨h3.1.1, h3.1.2⟩, by rw [one_np]; exact h3.2.1, ?_⟩, levAB_err (n := oneNet n cs a b) ⟨e1, e2⟩ ⟨e3, e4⟩ e5⟩, rfl⟩
  rw [one_np]
  exact firstErr_all.2 fun i hi => one_pipeErr h3 hc hi
theorem one_err (h0 : n.err = 0) (hc : condErr n cs = 0) (he : endErr n a b = 0) : (oneNet n cs a b).err = 0 ∨ (oneNet n cs a b).err = 9 := by
  have h := Net.err_end (one_P5 h0 hc he)
  by_cases h1 : ∀ k, k < (oneNet n cs a b).nodes.length → Joined (oneNet n cs a b).pipes.length (oneNet n cs a b).pf (oneNet n cs a b).pt (Net.on (oneNet n cs a b).heads) k
  · exact .inl (h.2 h1)
  · exact .inr (h.1 h1)
theorem one_end (x y : Int) : endErr (oneNet n cs a b) x y = endErr n x y := by
  unfold endErr
  rw [one_pf, one_pt, one_np]
  rfl
theorem one_cond (ds : List (List UInt8)) : condErr (oneNet n cs a b) ds = condErr n ds := by
  unfold condErr
  rw [one_np]
theorem one_high {i : Nat} (hi : i < n.pipes.length) : highOf (oneNet n cs a b) i = condOf cs i ∧ lowOf (oneNet n cs a b) i = condOf cs i := by
  unfold highOf lowOf condOf
  have e2 : (oneNet n cs a b).pipes.getD i default = (n.pipes.getD i default).one (cs.getD i []) := onePipes_getD hi
  rw [e2]
  exact ⟨rfl, rfl⟩
theorem joined_a {N : Nat} {pf pt : Nat → Nat} {S : Nat → Prop} {a b k : Nat} (hS : ∀ k, S k → k = a ∨ k = b) (hb : Joined N pf pt (fun k => k = a) b) (h : Joined N pf pt S k) : Joined N pf pt (fun k => k = a) k := by
  induction h with
  | base hs => rcases hS _ hs with rfl | rfl
               · exact .base rfl
               · exact hb
  | right hi _ ih => exact .right hi ih
  | left hi _ ih => exact .left hi ih
theorem one_eff {h : Nat → Rat} (h1 : (oneNet n cs a b).err = 0) (h0 : n.err = 0) (hc : condErr n cs = 0) (he : endErr n a b = 0) (hh : NetHeads (oneNet n cs a b) cs h) : Eff n.nodes.length n.pipes.length n.pf n.pt (condOf cs) a b h := by
  obtain ⟨e1, e2, e3, e4, e5, e6⟩ := endErr_ok he
  have e6' : Joined n.pipes.length n.pf n.pt (fun k => k = a) b := e6.mono fun k hk => by simp only [List.mem_singleton] at hk; omega
  have hj := (Net.err_zero h1).2
  unfold NetHeads at hh
  rw [one_pf, one_pt, one_np] at hh
  rw [one_pf, one_pt, one_np] at hj
  have n1 : numOf [49] = 1 := by rw [← frac_one]; exact (numErr_text (q := 1) (short_nat (k := 1) (by omega))).2
  have n0 : numOf [48] = 0 := by rw [← frac_zero]; exact (numErr_text (q := 0) (Dz.short (Dz.zero 1) (by omega))).2
  have hb : ((a : Int) == (b : Int)) = false := by rw [beq_eq_false_iff_ne]; exact e5
  have hpi := Net.piped (Net.err_zero h0).1.1.1 (fun i hi => ((cond_get hc).2 i (by have := (cond_get hc).1; omega)).2.2)
  refine Eff.of_heads hpi (by omega) (by omega) (by omega) ?_ ?_ ?_ (fun k _ => ?_) (fun k hk => ?_) e6' hh
  · show Net.at_ (levAB a b) a = some 1
    unfold Net.at_ levAB
    simp [n1]
  · show Net.at_ (levAB a b) b = some 0
    unfold Net.at_ levAB
    rw [List.find?_cons, show ((⟨(a : Int), [49]⟩ : Level).node == (b : Int)) = false from hb]
    simp [n0]
  · intro k _ k1 k2
    show Net.at_ (levAB a b) k = none
    unfold Net.at_ levAB
    have c1 : ((a : Int) == (k : Int)) = false := by rw [beq_eq_false_iff_ne]; omega
    have c2 : ((b : Int) == (k : Int)) = false := by rw [beq_eq_false_iff_ne]; omega
    simp [c1, c2]
  · show (Net.at_ [] k).getD 0 = 0
    rfl
  · constructor
    · intro _
      refine joined_a (S := Net.on (levAB a b)) ?_ e6' (hj k hk)
      rintro k ⟨v, hv, hn⟩
      simp only [levAB, List.mem_cons, List.not_mem_nil, or_false] at hv
      rcases hv with rfl | rfl
      · exact .inl (by simp only at hn; omega)
      · exact .inr (by simp only at hn; omega)
    · intro _
      exact allOf_true hk
theorem cross_congr {np : Nat} {pf pt : Nat → Nat} {c c' g g' : Nat → Rat} {N : Nat} (hf : ∀ i, i < np → pf i < N) (ht : ∀ i, i < np → pt i < N) (hc : ∀ i, i < np → c i = c' i) (hg : ∀ k, k < N → g k = g' k) : cross np pf pt c g g = cross np pf pt c' g' g' := by
  unfold cross
  apply sumTo_congr
  intro i hi
  rw [hc i hi, hg _ (hf i hi), hg _ (ht i hi)]
theorem head_cond {N : Nat} {h : Nat → Rat} (hs : ∀ k, k < N → Short 50000 (h k)) {k : Nat} (hk : k < N) : condOf (headTexts N h) k = h k :=
  cond_of_text (by rw [headTexts_length]; exact hk) (by simp [headTexts]) (hs k hk)
theorem giv_texts {m : Net} {x y : Int} {N : Nat} {h : Nat → Rat} (hs : ∀ k, k < N → Short 50000 (h k)) (h1 : m.err = 0) (h2 : endErr m x y = 0) : givErr m x y (headTexts N h) N = 0 := by
  unfold givErr
  rw [if_neg (by rw [h1]; simp), if_neg (by rw [h2]; simp), if_neg (by rw [headTexts_length]; simp), if_neg]
  rintro ⟨g, hg, hv⟩
  unfold headTexts at hg
  obtain ⟨k, hk, rfl⟩ := List.mem_map.1 hg
  rw [readFrac_text (hs k (List.mem_range.1 hk))] at hv
  cases hv
theorem headTexts_getD {N : Nat} {h : Nat → Rat} {k : Nat} (hk : k < N) : (headTexts N h).getD k [] = fracText (h k) := by
  simp [headTexts, List.getD, hk]
theorem one_abv {h : Nat → Rat} (h1 : (oneNet n cs a b).err = 0) (he : endErr n a b = 0) (hE : Eff n.nodes.length n.pipes.length n.pf n.pt (condOf cs) a b h) (hs : ∀ k, k < n.nodes.length → Short 50000 (h k)) :
    abvErr (oneNet n cs a b) a b (headTexts n.nodes.length h) = 0 ∧
    cross (oneNet n cs a b).pipes.length (oneNet n cs a b).pf (oneNet n cs a b).pt (highOf (oneNet n cs a b)) (condOf (headTexts n.nodes.length h)) (condOf (headTexts n.nodes.length h)) = condAt n.pipes.length n.pf n.pt (condOf cs) a h := by
  constructor
  · unfold abvErr
    have hg := giv_texts (m := oneNet n cs a b) (x := a) (y := b) hs h1 (by rw [one_end]; exact he)
    rw [show ((oneNet n cs a b).nodes.length : Int) = (n.nodes.length : Int) from rfl, if_neg (by rw [hg]; simp), if_neg]
    rw [Int.toNat_natCast, Int.toNat_natCast, headTexts_getD hE.ha, headTexts_getD hE.hb, hE.ea, hE.eb, frac_one, frac_zero]
    rintro (h | h) <;> exact h rfl
  · rw [one_pf, one_pt, one_np, ← hE.energy]
    exact cross_congr hE.piped.from_lt hE.piped.to_lt (fun i hi => (one_high hi).1) (fun k hk => head_cond hs hk)
/-- the net's own flows, divided -/
def unitOf (n : Net) (cs : List (List UInt8)) (h : Nat → Rat) (C : Rat) (i : Nat) : Rat := flowAt n cs h i / C
theorem unit_common {h : Nat → Rat} {S : Int} {F : Nat} (hT : Terms n.nodes.length n.pipes.length (condOf cs) h S F) (hE : Eff n.nodes.length n.pipes.length n.pf n.pt (condOf cs) a b h) (hp : n.pipes.length ≤ 9)
    (hC : 0 < condAt n.pipes.length n.pf n.pt (condOf cs) a h) : Common n.pipes.length (unitOf n cs h (condAt n.pipes.length n.pf n.pt (condOf cs) a h)) (F + 3) := by
  obtain ⟨z, z1, z2⟩ := hT.flow hE.piped hp a (Nat.le_refl _)
  have z1' : condAt n.pipes.length n.pf n.pt (condOf cs) a h * (S : Rat) = (z : Rat) := z1
  generalize condAt n.pipes.length n.pf n.pt (condOf cs) a h = C at hC z1' ⊢
  have hC0 : C ≠ 0 := by grind
  have hS0 : (S : Rat) ≠ 0 := by
    intro h0
    exact hT.1 (by exact_mod_cast h0)
  have hz : z ≠ 0 := by
    intro h0
    rw [h0] at z1'
    rcases Rat.mul_eq_zero.1 z1' with h2 | h2
    · exact hC0 h2
    · exact hS0 h2
  refine ⟨z, hz, z2, fun i hi => ?_⟩
  obtain ⟨y, y1, y2⟩ := hT.2.2 i hi _ (hE.piped.from_lt i hi) _ (hE.piped.to_lt i hi)
  refine ⟨y, ?_, Nat.le_trans y2 (pow_le_more _)⟩
  unfold unitOf flowAt
  rw [← z1', ← y1]
  rw [← Rat.mul_assoc, Rat.div_mul_cancel hC0]
theorem one_blw {h : Nat → Rat} {fs : List (List UInt8)} (h1 : (oneNet n cs a b).err = 0) (he : endErr n a b = 0) (hE : Eff n.nodes.length n.pipes.length n.pf n.pt (condOf cs) a b h) (hC : 0 < condAt n.pipes.length n.pf n.pt (condOf cs) a h)
    (hfs : fs = headTexts n.pipes.length (unitOf n cs h (condAt n.pipes.length n.pf n.pt (condOf cs) a h))) (hs : ∀ i, i < n.pipes.length → Short 50000 (unitOf n cs h (condAt n.pipes.length n.pf n.pt (condOf cs) a h) i)) :
    blwErr (oneNet n cs a b) a b fs = 0 ∧ 1 / lossTo (oneNet n cs a b).pipes.length (lowOf (oneNet n cs a b)) (condOf fs) = condAt n.pipes.length n.pf n.pt (condOf cs) a h := by
  have hcf : ∀ i, i < n.pipes.length → condOf fs i = unitOf n cs h (condAt n.pipes.length n.pf n.pt (condOf cs) a h) i := fun i hi => by rw [hfs]; exact head_cond hs hi
  constructor
  · unfold blwErr
    have hg := giv_texts (m := oneNet n cs a b) (x := a) (y := b) hs h1 (by rw [one_end]; exact he)
    rw [← hfs] at hg
    rw [one_np, if_neg (by rw [hg]; simp), if_pos]
    rw [Int.toNat_natCast, Int.toNat_natCast, one_pf, one_pt]
    intro k hk
    have h2 := hE.unit hC k hk
    rw [← h2]
    unfold divOf
    apply sumTo_congr
    intro i hi
    rw [hcf i hi]
    rfl
  · have h2 := hE.own hC
    rw [one_np]
    have e : lossTo n.pipes.length (lowOf (oneNet n cs a b)) (condOf fs) = 1 / condAt n.pipes.length n.pf n.pt (condOf cs) a h := by
      rw [← h2]
      unfold lossTo
      apply sumTo_congr
      intro i hi
      rw [hcf i hi, (one_high hi).2]
      rfl
    rw [e]
    generalize condAt n.pipes.length n.pf n.pt (condOf cs) a h = C at hC ⊢
    have hC0 : C ≠ 0 := by grind
    grind
theorem joined_symm {N : Nat} {pf pt : Nat → Nat} {a b : Nat} (h : Joined N pf pt (fun k => k = a) b) : Joined N pf pt (fun k => k = b) a := by
  have h1 : ∀ k, Joined N pf pt (fun k => k = a) k → ∀ S : Nat → Prop, Joined N pf pt S k → Joined N pf pt S a := by
    intro k hk
    induction hk with
    | base hs => intro S h; rw [← hs]; exact h
    | right hi _ ih => intro S h; exact ih S (.left hi h)
    | left hi _ ih => intro S h; exact ih S (.right hi h)
  exact h1 b h _ (.base rfl)
theorem end_back {x y : Int} (h : endErr n x y = 0) : endErr n y x = 0 := by
  obtain ⟨e1, e2, e3, e4, e5, e6⟩ := endErr_ok h
  unfold endErr
  rw [if_neg (by omega), if_neg (fun h => e5 h.symm), if_pos]
  have h1 : Joined n.pipes.length n.pf n.pt (fun k => k = x.toNat) y.toNat := e6.mono fun k hk => by simp only [List.mem_singleton] at hk; omega
  exact (joined_symm h1).mono fun k hk => by simp only [List.mem_singleton]; omega
/-- conductances lie between the pipes' bounds -/
def Inside (n : Net) (cs : List (List UInt8)) : Prop := ∀ i, i < n.pipes.length → lowOf n i ≤ condOf cs i ∧ condOf cs i ≤ highOf n i
end
end Go.Proofs.YtdecgcdkaaiglaaGreat
namespace Go.Proofs.YtdecgcdkaaiglaaGreat
open Go.RowKit Go.Deep
attribute [local go_sem ↓] Go.wp_at_zero Go.wp_at_succ
/-- an operation that is guarded, and not wanted -/
theorem wpQuiet_unwanted {P : Program} {ops : Array Oper} {C : World → Prop} {Q : Act → Prop} {a : Act} {o : Oper} {rest : List Oper} (hw : Region.wanted o (yielded ops a.tmps) = false) (h : wpQuiet P ops C Q rest (a.put o.dst undef)) : wpQuiet P ops C Q (o :: rest) a := by
  unfold wpQuiet
  rw [hw]
  exact h
def RetIns (n : Net) (cs : List (List UInt8)) (w : World) (e : Ending) (w' : World) : Prop := ∃ b : Bool, e = .returned (.bool b) ∧ (b = true → Inside n cs) ∧ Below w.heap.size w w'
def InsR (n : Net) (cs : List (List UInt8)) (W : World) (iv : Value) (wr : World) : Prop :=
  ∃ i : Nat, i ≤ cs.length ∧ iv = .int .i64 i ∧ Hid (∀ j, j < i → lowOf n j ≤ condOf cs j ∧ condOf cs j ≤ highOf n j) ∧ Hid (Below W.heap.size W wr)
theorem at_most {x y : Rat} (w : World) (hx : Short 50000 x) (hy : Short 50000 y) : Calls Tryz.prog 10 #[str (fracText x), str (fracText y)] w (RetB w (.bool (decide (x ≤ y)))) := by
  have h := law_atMost (fracText x) (fracText y) w (frac_small hx) (frac_small hy)
  rw [atMostB_yes (readFrac_text hx) (readFrac_text hy)] at h
  exact h
set_option maxRecDepth 100000 in
set_option maxHeartbeats 8000000 in
theorem law_inside (vn : Value) (Ac : Option Addr) (cc : Nat) (n : Net) (cs : List (List UInt8)) (w : World) (hn : NetIs w vn n) (hc : NodesIs w (.slice Ac cs.length cc) cs) (h0 : n.err = 0) (hcd : condErr n cs = 0) :
    Calls Tryz.prog 28 #[vn, .slice Ac cs.length cc] w (RetIns n cs w) := by
  have HCN := hide hc
  have HCG := hide (cond_get hcd)
  have HP3 := hide (Net.err_zero h0).1.1.1
  have h1000 : cs.length ≤ 1000 := by obtain ⟨A', c', e, _, _, h6, _⟩ := hc; exact h6
  obtain ⟨A0, k0, c0, A1, k1, c1, A2, k2, c2, A3, k3, c3, rfl, hn0, hn1, hn2, hn3⟩ := hn
  have hk1 : k1 = n.pipes.length := by obtain ⟨A', c', e, _⟩ := hn1; injection e
  have hk1c : k1 = cs.length := by have := (cond_get hcd).1; omega
  have HK1 := hide hk1
  have HN1 := hide hn1
  have HW := hide (ext_alloc w (.cells #[.slice A0 k0 c0, .slice A1 k1 c1, .slice A2 k2 c2, .slice A3 k3 c3] 26))
  have HK := hide (Blk.new w 26 #[.slice A0 k0 c0, .slice A1 k1 c1, .slice A2 k2 c2, .slice A3 k3 c3])
  subst hk1c
  clear hn0 hn1 hn2 hn3 hk1 hcd h0 hc
  go_enter Tryz.func28, Tryz.ntmps28
  go_wp2_with fail
  generalize w.alloc (.cells #[.slice A0 k0 c0, .slice A1 cs.length c1, .slice A2 k2 c2, .slice A3 k3 c3] 26) = W0 at HK HW ⊢
  go_loopw [5] (InsR n cs W0) (fun iv _ => cs.length - (intOf iv).toNat)
  case atStart => exact ⟨0, Nat.zero_le _, rfl, hide (fun j h => absurd h (Nat.not_lt_zero _)), hide (ext_refl W0)⟩
  case round =>
    obtain ⟨i, hi, rfl, HOK, HWR⟩ := hrel
    by_cases hil : i < cs.length
    · have hin : i < n.pipes.length := by have := HK1.out; omega
      have hii : (i : Int) < (cs.length : Int) := by omega
      obtain ⟨ad, e1, hb, p0, p1, p2, p3, p4⟩ := (HN1.out.below (ext HW.out HWR.out)).at_ hin
      subst e1
      obtain ⟨ac, e2, lc, qc⟩ := cond_at (HCN.out.below (ext HW.out HWR.out)) hil
      subst e2
      have hh := Net.bounds HP3.out hin
      rw [hh.2.2.1] at p3
      rw [hh.1] at p4
      have hci := HCG.out.2 i hil
      rw [hci.1] at qc
      have hcc : numOf (cs.getD i []) = condOf cs i := rfl
      rw [hcc] at qc
      have sc : Short 50000 (condOf cs i) := Dz.short (Short.sz hci.2.1) (show 12 < 50000 by omega)
      have h1 := fun w' => at_most w' (Dz.short hh.2.2.2.1 (show 12 < 50000 by omega)) sc
      have h2 := fun w' => at_most w' sc (Dz.short hh.2.1 (show 12 < 50000 by omega))
      have r1 := (HK.out.below HWR.out HK.out.lt).cell 1
      have rL := Nat.lt_of_lt_of_le HK.out.lt HWR.out.size
      simp at r1
      have HSE : Hid (lowOf n i ≤ condOf cs i → condOf cs i ≤ highOf n i → ∀ j, j < i + 1 → lowOf n j ≤ condOf cs j ∧ condOf cs j ≤ highOf n j) := hide (fun e1 e2 j hj => by
        rcases Nat.lt_or_ge j i with h | h
        · exact HOK.out j h
        · obtain rfl : j = i := by omega
          exact ⟨e1, e2⟩)
      generalize fracText (lowOf n i) = xl at p3 h1
      generalize fracText (highOf n i) = xh at p4 h2
      generalize fracText (condOf cs i) = xc at qc h1 h2
      clear hci hcc sc hh p0 p1 p2
      by_cases g1 : lowOf n i ≤ condOf cs i
      · rw [decide_eq_true g1] at h1
        by_cases g2 : condOf cs i ≤ highOf n i
        · rw [decide_eq_true g2] at h2
          have HNX := hide (HSE.out g1 g2)
          clear g1 g2
          go_wp2_with fail
          have r1g := grown_cell rL r1
          have p3g := grown_fcell hb p3
          have p4g := grown_fcell hb p4
          have qcg := grown_acell lc qc
          refine wp_region_grown (by kernel_rfl) (by kernel_rfl) ?_
          repeat (quiet_step (first | (go_at_call_of 10 (str xl); exact call_grown (h1 _)) | (go_at_call_of 10 (str xc); exact call_grown (h2 _))))
          refine wpQuiet_nil ?_
          rintro w9 ⟨t9, rfl⟩
          clear r1g p3g p4g qcg
          have hbB := grown_below wr t9
          have HWR_ := hide (ext HWR.out hbB)
          clear HWR
          have HWR := HWR_
          clear HWR_
          generalize grown wr t9 = WN at hbB HWR ⊢
          clear t9
          clear r1 rL p3 p4 qc hb lc h1 h2
          go_wp2_with fail
          go_round
          case rel => exact ⟨i + 1, by omega, by go_num, HNX, HWR⟩
          case measure => simp [intOf]; omega
        · rw [decide_eq_false g2] at h2
          clear g1 g2 HSE
          go_wp2_with fail
          have r1g := grown_cell rL r1
          have p3g := grown_fcell hb p3
          have p4g := grown_fcell hb p4
          have qcg := grown_acell lc qc
          refine wp_region_grown (by kernel_rfl) (by kernel_rfl) ?_
          repeat (quiet_step (first | (go_at_call_of 10 (str xl); exact call_grown (h1 _)) | (go_at_call_of 10 (str xc); exact call_grown (h2 _))))
          refine wpQuiet_nil ?_
          rintro w9 ⟨t9, rfl⟩
          clear r1g p3g p4g qcg
          have hbB := grown_below wr t9
          have HWR_ := hide (ext HWR.out hbB)
          clear HWR
          have HWR := HWR_
          clear HWR_
          generalize grown wr t9 = WN at hbB HWR ⊢
          clear t9
          clear r1 rL p3 p4 qc hb lc h1 h2
          go_wp2_with fail
          go_ret
          exact ⟨false, rfl, fun h => (by cases h), ext HW.out HWR.out⟩
      · rw [decide_eq_false g1] at h1
        clear g1 HSE h2
        go_wp2_with fail
        have r1g := grown_cell rL r1
        have p3g := grown_fcell hb p3
        have p4g := grown_fcell hb p4
        have qcg := grown_acell lc qc
        refine wp_region_grown (by kernel_rfl) (by kernel_rfl) ?_
        iterate 13 (quiet_step (first | (go_at_call_of 10 (str xl); exact call_grown (h1 _))))
        iterate 12 (refine no_implicit_lambda% (wpQuiet_unwanted ?_ ?_); (focus rfl); simp only [Act.put, List.setIfInBounds_toArray, List.set_cons_zero, List.set_cons_succ])
        repeat (quiet_step (first | (go_at_call_of 10 (str xl); exact call_grown (h1 _))))
        refine wpQuiet_nil ?_
        rintro w9 ⟨t9, rfl⟩
        clear r1g p3g p4g qcg
        have hbB := grown_below wr t9
        have HWR_ := hide (ext HWR.out hbB)
        clear HWR
        have HWR := HWR_
        clear HWR_
        generalize grown wr t9 = WN at hbB HWR ⊢
        clear t9
        clear r1 rL p3 p4 qc hb lc h1
        go_wp2_with fail
        go_ret
        exact ⟨false, rfl, fun h => (by cases h), ext HW.out HWR.out⟩
    · obtain rfl : i = cs.length := by omega
      have HIN : Hid (Inside n cs) := hide (fun j hj => HOK.out j (by have := HK1.out; omega))
      go_wp2_with fail
      go_ret
      exact ⟨true, rfl, fun _ => HIN.out, ext HW.out HWR.out⟩
end Go.Proofs.YtdecgcdkaaiglaaGreat
namespace Go.Proofs.YtdecgcdkaaiglaaGreat
open Go.RowKit Go.Deep
theorem infoPipe : (Tryz.prog.info? 47).map (fun i => (i.zero, i.size, i.bytes)) = some (some (.agg #[.string ⟨#[]⟩, .int .i64 0, .int .i64 0, .string ⟨#[]⟩, .string ⟨#[]⟩]), 5, 64) := by kernel_rfl
theorem pipesCells_one (l : List Pipe) : ∀ u ∈ pipesCells l, u.oneCell' = true := by
  intro u hu
  unfold pipesCells at hu
  obtain ⟨p, _, hp⟩ := List.mem_flatMap.1 hu
  unfold pipeCells at hp
  simp only [List.mem_cons, List.not_mem_nil, or_false] at hp
  rcases hp with rfl | rfl | rfl | rfl | rfl <;> rfl
/-- pipes in a block of the call's own, and more behind them -/
def PipBlk (w : World) (g : Nat) (l : List Pipe) (rest : List Value) : Prop := Blk w g 47 (pipesCells l ++ rest).toArray
theorem pipesCells_set (l : List Pipe) : ∀ (k : Nat) (p : Pipe), k < l.length → p.name = (l.getD k default).name → p.from_ = (l.getD k default).from_ → p.to_ = (l.getD k default).to_ →
    ((pipesCells l).set (5 * k + 3) (str p.low)).set (5 * k + 4) (str p.high) = pipesCells (l.set k p) := by
  induction l with
  | nil => intro k p hk; simp at hk
  | cons x l ih =>
    intro k p hk h1 h2 h3
    cases k with
    | zero =>
      simp only [List.getD_cons_zero] at h1 h2 h3
      simp [pipesCells, pipeCells, h1, h2, h3]
    | succ k =>
      have := ih k p (by simpa using hk) (by simpa using h1) (by simpa using h2) (by simpa using h3)
      rw [show 5 * (k + 1) + 3 = 5 * k + 3 + 5 by omega, show 5 * (k + 1) + 4 = 5 * k + 4 + 5 by omega]
      simp only [pipesCells, List.flatMap_cons, List.set_cons_succ] at this ⊢
      simp only [pipeCells, List.cons_append, List.nil_append, List.set_cons_succ]
      rw [this]
section
variable {w w' : World} {g : Nat} {l : List Pipe} {rest : List Value}
theorem PipBlk.lt (h : PipBlk w g l rest) : g < w.heap.size := Blk.lt h
theorem PipBlk.frozen (h : PipBlk w g l rest) (k : Nat) : w.frozen? ⟨g, k, none⟩ = false := Blk.frozen h k
theorem PipBlk.below (h : PipBlk w g l rest) (hb : Below w.heap.size w w') : PipBlk w' g l rest := Blk.below h hb h.lt
theorem PipBlk.cell (h : PipBlk w g l rest) {k : Nat} (hk : k < l.length) : w.cell? ⟨g, 5 * k + 3, none⟩ = some (str l[k].low) ∧ w.cell? ⟨g, 5 * k + 4, none⟩ = some (str l[k].high) := by
  have hg := pipesCells_get hk
  have hl := pipesCells_length l
  unfold PipBlk at h
  rw [h.cell, h.cell, List.getElem?_toArray, List.getElem?_toArray, List.getElem?_append_left (by omega), List.getElem?_append_left (by omega)]
  exact ⟨hg.2.2.2.1, hg.2.2.2.2⟩
theorem PipBlk.set_ (h : PipBlk w g l rest) {k : Nat} (hk : k < l.length) (p : Pipe) (h1 : p.name = (l.getD k default).name) (h2 : p.from_ = (l.getD k default).from_) (h3 : p.to_ = (l.getD k default).to_) :
    PipBlk ((w.setCell ⟨g, 5 * k + 3, none⟩ (str p.low)).setCell ⟨g, 5 * k + 4, none⟩ (str p.high)) g (l.set k p) rest := by
  have hl := pipesCells_length l
  unfold PipBlk at h ⊢
  have h4 := (h.set_ (5 * k + 3) (str p.low)).set_ (5 * k + 4) (str p.high)
  rw [List.setIfInBounds_toArray, List.setIfInBounds_toArray, List.set_append_left _ _ (by omega), List.set_append_left _ _ (by rw [List.length_set]; omega), pipesCells_set l k p hk h1 h2 h3] at h4
  exact h4
theorem PipBlk.pipes {n c : Nat} (h : PipBlk w g l rest) (hn : n = l.length) (hnc : n ≤ c) (hc : c ≤ maxLen) (hs : ∀ x ∈ l, SmallS x.name ∧ SmallS x.low ∧ SmallS x.high) (h1 : l.length ≤ 1000) : PipesIs w (.slice (some ⟨g, 0, none⟩) n c) l := by
  subst hn
  refine ⟨_, c, rfl, hnc, hc, h1, ?_, hs⟩
  unfold PipBlk at h
  have hl := pipesCells_length l
  refine ⟨by rw [hl]; omega, fun hp => ⟨_, rfl, h.lt, fun j u hu => ?_⟩⟩
  have hj : j < (pipesCells l).length := (List.getElem?_eq_some_iff.1 hu).1
  have e : (⟨g, 0, none⟩ : Addr).add j = ⟨g, j, none⟩ := by
    unfold Addr.add
    by_cases hj : j = 0
    · subst hj; rfl
    · simp [hj]
  rw [e, h.cell, List.getElem?_toArray, List.getElem?_append_left hj, hu]
theorem own_pipes {base n : Nat} {v : Value} (h : w.ownsRow base 47 5 v n (pipesCells l)) (hn : 0 < n) :
    ∃ g c rest, v = .slice (some ⟨g, 0, none⟩) n c ∧ base ≤ g ∧ l.length = n ∧ PipBlk w g l rest ∧ n ≤ c ∧ c ≤ maxLen := by
  have hl : l.length = n := by have := h.1; rw [pipesCells_length] at this; omega
  rcases h.2 with ⟨_, h0⟩ | ⟨g, cap, cur, hv, hb, hg, hnc, hcm, hcs, ht⟩
  · omega
  · refine ⟨g, cap, cur.toList.drop (n * 5), hv, hb, hl, ?_, hnc, hcm⟩
    unfold PipBlk Blk
    rw [hg]
    congr 2
    rw [← ht, List.take_append_drop]
end
theorem onePipes_at {l : List Pipe} {cs : List (List UInt8)} {i : Nat} (hi : i < l.length) : (onePipes l cs i).getD i default = l.getD i default := by
  have h : i < (onePipes l cs i).length := by rw [onePipes_length]; exact hi
  rw [List.getD_eq_getElem?_getD, List.getElem?_eq_getElem h, Option.getD_some, onePipes_get, if_neg (by omega)]
theorem PipBlk.one {w : World} {g : Nat} {l : List Pipe} {rest : List Value} {cs : List (List UInt8)} {i : Nat} {c : List UInt8} (h : PipBlk w g (onePipes l cs i) rest) (hi : i < l.length) (hc : cs.getD i [] = c) :
    PipBlk ((w.setCell ⟨g, i * 5 + 3, none⟩ (str c)).setCell ⟨g, i * 5 + 4, none⟩ (str c)) g (onePipes l cs (i + 1)) rest := by
  have h1 : i < (onePipes l cs i).length := by rw [onePipes_length]; exact hi
  have h2 := h.set_ h1 ((l.getD i default).one (cs.getD i [])) (by rw [onePipes_at hi]; rfl) (by rw [onePipes_at hi]; rfl) (by rw [onePipes_at hi]; rfl)
  rw [onePipes_set hi] at h2
  subst hc
  rw [Nat.mul_comm i 5]
  exact h2
theorem ex_div {a b : Rat} (w : World) (ha : Short 50000 a) (hb : Short 50000 b) (h0 : b ≠ 0) (h : Short 50000 (a / b)) : Calls Tryz.prog 29 #[str (fracText a), str (fracText b)] w (RetB w (.tuple #[str (fracText (a / b)), .int .i64 0])) := by
  have h1 := Div_any ⟨(fracText a).toArray⟩ ⟨(fracText b).toArray⟩ w (smallS_size (frac_small ha)) (smallS_size (frac_small hb))
  rw [bts_mk, bts_mk] at h1
  have e : div2 (fracText a) (fracText b) = (fracText (a / b), 0) := by
    unfold div2
    rw [readFrac_text ha, readFrac_text hb]
    simp only
    rw [if_neg h0]
    unfold toldOf
    rw [if_pos h]
  rw [e] at h1
  exact h1
/-- what Above told is not below the whole -/
theorem told_above {n : Net} {cs gs : List (List UInt8)} {a b y : Int} {w w' : World} {e : Ending} {h : Nat → Rat} (hE : Eff n.nodes.length n.pipes.length n.pf n.pt (condOf cs) a.toNat b.toNat h) (hin : Inside n cs) (hy : abvErr n a b gs = y)
    (hp : n.pipes.length ≤ 9) (hc : givErr n a b gs n.nodes.length = 0 → Common n.nodes.length (condOf gs) 12735) (hr : RetAbv n gs y w e w') :
    Below w.heap.size w w' ∧ ∃ s : List UInt8, e = .returned (.tuple #[str s, .int .i64 y]) ∧ (y = 0 → ∃ q, s = fracText q ∧ Short 50000 q ∧ condAt n.pipes.length n.pf n.pt (condOf cs) a.toNat h ≤ q) := by
  obtain ⟨hb, ⟨h0, rfl⟩ | ⟨h0, rfl⟩⟩ := hr
  · exact ⟨hb, [], rfl, fun h => absurd h h0⟩
  · refine ⟨hb, _, by rw [h0], fun _ => ⟨_, rfl, ?_, ?_⟩⟩
    all_goals
      rw [h0] at hy
      unfold abvErr at hy
      by_cases h3 : givErr n a b gs n.nodes.length = 0
      · rw [if_neg (by rw [h3]; simp)] at hy
        by_cases h4 : gs.getD a.toNat [] ≠ [49] ∨ gs.getD b.toNat [] ≠ [48]
        · rw [if_pos h4] at hy; cases hy
        obtain ⟨g0, g1, g2, g3⟩ := givErr_ok h3
        have hP3 := (Net.err_zero g0).1.1.1
        first
        | (obtain ⟨S, hT⟩ := sq_of (c := highOf n) (fun i hi => (Net.bounds hP3 hi).2.1) hp (hc h3)
           exact Dz.short (hT.sum hE.piped.from_lt hE.piped.to_lt hp (Nat.le_refl _)) (by omega))
        | (have e1 : condOf gs a.toNat = 1 := by
             have := not_or.1 h4
             have h5 : gs.getD a.toNat [] = [49] := Classical.not_not.1 this.1
             unfold condOf
             rw [h5, ← frac_one]
             exact (numErr_text (q := 1) (short_nat (k := 1) (by omega))).2
           have e2 : condOf gs b.toNat = 0 := by
             have := not_or.1 h4
             have h5 : gs.getD b.toNat [] = [48] := Classical.not_not.1 this.2
             unfold condOf
             rw [h5, ← frac_zero]
             exact (numErr_text (q := 0) (Dz.short (Dz.zero 1) (by omega))).2
           exact hE.above e1 e2 (fun i hi => (hin i hi).2))
      · rw [if_pos h3] at hy; exact absurd hy h3
theorem loss_anti {np : Nat} {c c' f : Nat → Rat} (h0 : ∀ i, i < np → 0 < c i) (hc : ∀ i, i < np → c i ≤ c' i) : lossTo np c' f ≤ lossTo np c f := by
  induction np with
  | zero => exact Rat.le_refl
  | succ n ih =>
    rw [loss_succ, loss_succ]
    have h1 := ih (fun i hi => h0 i (by omega)) (fun i hi => hc i (by omega))
    have h2 : f n * f n / c' n ≤ f n * f n / c n := by
      have h3 := h0 n (by omega)
      have h4 := hc n (by omega)
      have h5 : 0 < c' n := by grind
      rw [Rat.div_def, Rat.div_def]
      refine Rat.mul_le_mul_of_nonneg_left ?_ (sq_nonneg_ _)
      have i1 := Rat.inv_pos.2 h3
      have i2 := Rat.inv_pos.2 h5
      have e1 : c n * (c n)⁻¹ = 1 := Rat.mul_inv_cancel _ (by grind)
      have e2 : c' n * (c' n)⁻¹ = 1 := Rat.mul_inv_cancel _ (by grind)
      have h6 : c n * (c' n)⁻¹ ≤ c' n * (c' n)⁻¹ := Rat.mul_le_mul_of_nonneg_right h4 (by grind)
      rw [e2, ← e1] at h6
      exact Rat.le_of_mul_le_mul_left h6 h3
    grind
/-- what Below told is not above the whole -/
theorem told_below {n : Net} {cs fs : List (List UInt8)} {a b y : Int} {w w' : World} {e : Ending} {h : Nat → Rat} (hE : Eff n.nodes.length n.pipes.length n.pf n.pt (condOf cs) a.toNat b.toNat h) (hC : 0 < condAt n.pipes.length n.pf n.pt (condOf cs) a.toNat h)
    (hin : Inside n cs) (hy : blwErr n a b fs = y) (hp : n.pipes.length ≤ 9) (hc : givErr n a b fs n.pipes.length = 0 → Common n.pipes.length (condOf fs) 13000) (hr : RetBlw n fs y w e w') :
    Below w.heap.size w w' ∧ ∃ s : List UInt8, e = .returned (.tuple #[str s, .int .i64 y]) ∧ (y = 0 → ∃ q, s = fracText q ∧ Short 50000 q ∧ q ≤ condAt n.pipes.length n.pf n.pt (condOf cs) a.toNat h) := by
  obtain ⟨hb, ⟨h0, rfl⟩ | ⟨h0, rfl⟩⟩ := hr
  · exact ⟨hb, [], rfl, fun h => absurd h h0⟩
  · rw [h0] at hy
    unfold blwErr at hy
    by_cases h3 : givErr n a b fs n.pipes.length = 0
    · rw [if_neg (by rw [h3]; simp)] at hy
      by_cases h4 : UnitFlow n.nodes.length n.pipes.length n.pf n.pt a.toNat b.toNat (condOf fs)
      · obtain ⟨g0, g1, g2, g3⟩ := givErr_ok h3
        have hP3 := (Net.err_zero g0).1.1.1
        have hlow : ∀ i, i < n.pipes.length → 0 < lowOf n i := fun i hi => (Net.bounds hP3 hi).2.2.2.2.1
        have hpos : 0 < lossTo n.pipes.length (lowOf n) (condOf fs) := loss_pos hlow _ (Nat.le_refl _) (h4.some hE.ha)
        obtain ⟨S, hT⟩ := loss_of (fun i hi => (Net.bounds hP3 hi).2.2.2.1) hlow hp (hc h3)
        have hd := hT.sum hp (Nat.le_refl _)
        have hl0 : lossTo n.pipes.length (lowOf n) (condOf fs) ≠ 0 := by grind
        refine ⟨hb, _, by rw [h0], fun _ => ⟨_, rfl, (hd.inv hl0).short (by omega), ?_⟩⟩
        have h5 := hE.below h4 hC
        have h6 := loss_anti (f := condOf fs) hlow (fun i hi => (hin i hi).1)
        have h7 : 1 / condAt n.pipes.length n.pf n.pt (condOf cs) a.toNat h ≤ lossTo n.pipes.length (lowOf n) (condOf fs) := Rat.le_trans h5 h6
        generalize condAt n.pipes.length n.pf n.pt (condOf cs) a.toNat h = C at hC h7 ⊢
        generalize lossTo n.pipes.length (lowOf n) (condOf fs) = L at hpos h7 hl0 ⊢
        have hC0 : C ≠ 0 := by grind
        have h8 : 1 / C * C ≤ L * C := Rat.mul_le_mul_of_nonneg_right h7 (by grind)
        have h9 : 1 / C * C = 1 := Rat.div_mul_cancel hC0
        have h10 : 1 / L * L = 1 := Rat.div_mul_cancel hl0
        rw [h9, ← h10, Rat.mul_comm L C] at h8
        exact Rat.le_of_mul_le_mul_right h8 hpos
      · rw [if_neg h4] at hy; cases hy
    · rw [if_pos h3] at hy; exact absurd hy h3
theorem eff_pos {n : Net} {cs : List (List UInt8)} {a b : Int} {h : Nat → Rat} (he : endErr n a b = 0) (hE : Eff n.nodes.length n.pipes.length n.pf n.pt (condOf cs) a.toNat b.toNat h) : 0 < condAt n.pipes.length n.pf n.pt (condOf cs) a.toNat h := by
  obtain ⟨e1, e2, e3, e4, e5, e6⟩ := endErr_ok he
  exact hE.pos (e6.mono fun k hk => by simp only [List.mem_singleton] at hk; omega)
theorem eff_some {np : Nat} {pf pt : Nat → Nat} {c h : Nat → Rat} {a : Nat} (hC : 0 < condAt np pf pt c a h) : 0 < np := by
  rcases Nat.eq_zero_or_pos np with h0 | h0
  · subst h0
    exact absurd hC (by show ¬ ((0 : Rat) < 0); grind)
  · exact h0
end Go.Proofs.YtdecgcdkaaiglaaGreat
