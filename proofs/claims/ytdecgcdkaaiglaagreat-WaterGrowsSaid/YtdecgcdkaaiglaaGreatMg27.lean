/- The walk of Whole: the conductance of a net between two nodes. · atMost; texts in a block of the call's own; the plain law of WaterGrows. · The walk of WaterGrows. -/
import Derived.Below
import Derived.BigQuiet
import Derived.BigRegion
import Derived.Deep.AppendLies
import Derived.Deep.Cut
import Derived.Deep.CutBlock
import Derived.Deep.DeepCutAuto
import Derived.Deep.DeepMust
import Derived.Deep.DrawnRows
import Derived.Deep.Draws
import Derived.Deep.LoopGhost
import Derived.Deep.MidRow
import Derived.Deep.OwnRows
import Derived.Deep.Quiet
import Derived.Deep.QuietTactic
import Derived.Deep.RegionHeld3
import Derived.Deep.RegionLawGrows
import Derived.Deep.RegionWith
import Derived.IntWalk
import Derived.Laws.BitsAllLaws
import Derived.Laws.MathBits
import Derived.Laws.OwnMore
import Derived.Laws.Rows
import Derived.Lib.BitFns
import Derived.Lib.Bytealg
import Derived.Lib.Index
import Derived.Lib.Slices
import Derived.Lib.Small
import Derived.Lib.Strings
import Derived.Lib.Walk
import Derived.LoopN
import Derived.Maps.AppendAt
import Derived.OwnWalk
import Derived.RegionTactic
import Derived.Scope
import Derived.StillTail
import Derived.StillTailTactics
import Derived.WalkKit
import Derived.WalkLawsBesides
import Derived.WalkMore
import Derived.WalkSpells
import Init.Data.List.Lemmas
import Derived.Test.YtdecgcdkaaiglaaGreatMg25
set_option linter.unusedVariables false
set_option linter.unusedSimpArgs false
namespace Go.Proofs.YtdecgcdkaaiglaaGreat
open Go.RowKit Go.Deep
attribute [local go_sem ↓] Go.wp_at_zero Go.wp_at_succ
noncomputable def wholeErr (n : Net) (cs : List (List UInt8)) (a b : Int) : Int := if askErr n cs ≠ 0 then askErr n cs else endErr n a b
def RetWho (n : Net) (cs : List (List UInt8)) (a b : Int) (x : Int) (w : World) (e : Ending) (w' : World) : Prop :=
  Below w.heap.size w w' ∧ ((x ≠ 0 ∧ e = .returned (.tuple #[str [], .int .i64 x])) ∨
    (x = 0 ∧ ∃ h, Eff n.nodes.length n.pipes.length n.pf n.pt (condOf cs) a.toNat b.toNat h ∧ Common n.nodes.length h 12735 ∧ e = .returned (.tuple #[str (fracText (condAt n.pipes.length n.pf n.pt (condOf cs) a.toNat h)), .int .i64 0])))
/-- heads 1 and 0 at two nodes -/
def fixAB (a b : Nat) (k : Nat) : Option Rat := if k = a then some 1 else if k = b then some 0 else none
def levAB (a b : Int) : List Level := [⟨a, [49]⟩, ⟨b, [48]⟩]
theorem dz_one : Dz 12 1 := Short.sz (short_nat (k := 1) (by omega))
theorem frac_one : fracText 1 = [49] := by
  have h := frac_nat 1
  rw [dec1] at h
  exact h
theorem levAB_text {a b : Nat} (k : Nat) : levelText (levAB a b) (k : Int) = fracText (outOf (fixAB a b) k) ∧ ((levAB a b).find? (fun v => v.node == (k : Int))).isSome = (fixAB a b k).isSome := by
  unfold levelText levAB outOf fixAB
  by_cases h1 : k = a
  · subst h1
    simp [frac_one]
  · have e1 : ((a : Int) == (k : Int)) = false := by rw [beq_eq_false_iff_ne]; omega
    by_cases h2 : k = b
    · subst h2
      simp [h1, e1, frac_zero]
    · have e2 : ((b : Int) == (k : Int)) = false := by rw [beq_eq_false_iff_ne]; omega
      simp [h1, h2, e1, e2, frac_zero]
theorem given_ab {n : Net} {cs : List (List UInt8)} {a b : Nat} {l : List Bool} (h0 : n.err = 0) (hc : condErr n cs = 0) (hN : n.nodes.length ≤ 6) (hp : n.pipes.length ≤ 9) (ha : a < n.nodes.length)
    (hm : Marks n (fun k => (k : Int) ∈ [(a : Int)]) l) : Given n.nodes.length n.pipes.length n.pf n.pt (condOf cs) (fixAB a b) (fun _ => 0) (fun k => l.getD k false) := by
  obtain ⟨h5, hj⟩ := Net.err_zero h0
  obtain ⟨hl, hcs⟩ := cond_get hc
  refine {
    piped := Net.piped h5.1.1 (fun i hi => (hcs i (by omega)).2.2)
    tied := fun k hk hf => ?_
    cd := fun i hi => short_dz (hcs i (by omega)).2.1
    fd := fun k _ => ?_
    wd := fun k _ => (Dz.zero 1).more (by omega)
    hN := hN
    hp := hp }
  · have h1 : l[k]? = some true := by
      have h2 : l.getD k false = true := hf.2
      have hkl : k < l.length := by rw [hm.len]; exact hk
      rw [List.getElem?_eq_getElem hkl]
      simpa [List.getD, List.getElem?_eq_getElem hkl] using h2
    refine ((hm.iff k).1 h1).mono fun j hj => ?_
    simp only [List.mem_singleton] at hj
    obtain rfl : j = a := by omega
    exact ⟨ha, by unfold fixAB; simp⟩
  · unfold outOf fixAB
    split
    · exact dz_one
    · split
      · exact (Dz.zero 1).more (by omega)
      · exact (Dz.zero 1).more (by omega)
theorem eff_ab {n : Net} {cs : List (List UInt8)} {a b : Nat} {l : List Bool} {h : Nat → Rat} (hG : Given n.nodes.length n.pipes.length n.pf n.pt (condOf cs) (fixAB a b) (fun _ => 0) (fun k => l.getD k false)) (ha : a < n.nodes.length) (hb : b < n.nodes.length) (hne : a ≠ b)
    (hm : Marks n (fun k => (k : Int) ∈ [(a : Int)]) l) (hj : Joined n.pipes.length n.pf n.pt (fun k => (k : Int) ∈ [(a : Int)]) b) (hh : IsHeads n.nodes.length n.pipes.length n.pf n.pt (condOf cs) (fixAB a b) (fun _ => 0) (fun k => l.getD k false) h) :
    Eff n.nodes.length n.pipes.length n.pf n.pt (condOf cs) a b h := by
  have hS : ∀ k : Nat, (k : Int) ∈ [(a : Int)] → k = a := fun k hk => by simp only [List.mem_singleton] at hk; omega
  have hS2 : ∀ k : Nat, k = a → (k : Int) ∈ [(a : Int)] := fun k hk => by simp only [List.mem_singleton]; omega
  refine Eff.of_heads hG.piped ha hb hne (by unfold fixAB; simp) (by unfold fixAB; simp [Ne.symm hne]) (fun k _ h1 h2 => by unfold fixAB; simp [h1, h2]) (fun _ _ => rfl) (fun k hk => ?_) (hj.mono hS) hh
  have h1 := hm.iff k
  have hkl : k < l.length := by rw [hm.len]; exact hk
  rw [List.getElem?_eq_getElem hkl] at h1
  constructor
  · intro h2
    refine (h1.1 ?_).mono hS
    simpa [List.getD, List.getElem?_eq_getElem hkl] using h2
  · intro h2
    have := h1.2 (h2.mono hS2)
    simpa [List.getD, List.getElem?_eq_getElem hkl] using this
theorem endErr_ok {n : Net} {a b : Int} (h : endErr n a b = 0) : 0 ≤ a ∧ a < n.nodes.length ∧ 0 ≤ b ∧ b < n.nodes.length ∧ a ≠ b ∧ Joined n.pipes.length n.pf n.pt (fun k => (k : Int) ∈ [a]) b.toNat := by
  unfold endErr at h
  by_cases h1 : a < 0 ∨ (n.nodes.length : Int) ≤ a ∨ b < 0 ∨ (n.nodes.length : Int) ≤ b
  · rw [if_pos h1] at h; cases h
  · rw [if_neg h1] at h
    by_cases h2 : a = b
    · rw [if_pos h2] at h; cases h
    · rw [if_neg h2] at h
      by_cases h3 : Joined n.pipes.length n.pf n.pt (fun k => (k : Int) ∈ [a]) b.toNat
      · exact ⟨by omega, by omega, by omega, by omega, h2, h3⟩
      · rw [if_neg h3] at h; cases h
theorem hid_alloc2_drawn (W : World) (o o2 : Obj) : Hid (Below W.heap.size W ((W.alloc o).alloc o2).drew) := below_drewN (ext (ext_alloc W o) (ext_alloc _ o2)) 1
theorem reads_one2 (w : World) (o : Obj) (t : TypeId) (a : Value) : Reads ((w.alloc o).alloc (.cells #[a] t)).drew ((w.alloc o).alloc (.cells #[a] t)).drew.heap.size 1 (some ⟨w.heap.size + 1, 0, none⟩) 1 [a] := by
  have h := reads_one (w.alloc o) t a
  have e : (w.alloc o).heap.size = w.heap.size + 1 := World.size_alloc _ _
  rw [e] at h
  exact h
theorem reads_one3 (w : World) (o : Obj) (t : TypeId) (a : Value) : Reads ((w.alloc (.cells #[a] t)).alloc o).drew ((w.alloc (.cells #[a] t)).alloc o).drew.heap.size 1 (some ⟨w.heap.size, 0, none⟩) 1 [a] :=
  ((reads_one w t a).below (ext_alloc _ o)).more (ext_alloc (w.alloc (.cells #[a] t)) o).size
theorem blk_two (w : World) (o : Obj) (t : TypeId) (cs : Array Value) : Blk ((w.alloc o).alloc (.cells cs t)).drew (w.heap.size + 1) t cs := by
  have h := Blk.new (w.alloc o) t cs
  rw [World.size_alloc] at h
  exact h
theorem lev_is {w : World} {g : Nat} {a b : Int} (h : Blk w g 49 #[.int .i64 a, str [49], .int .i64 b, str [48]]) : LevelsIs w (.slice (some ⟨g, 0, none⟩) 2 2) (levAB a b) :=
  ⟨_, 2, rfl, by simp [levAB], by unfold maxLen; omega, by simp [levAB], reads_blk (size := 2) (n := 2) (cs := [.int .i64 a, str [49], .int .i64 b, str [48]]) h rfl, fun x hx => by simp [levAB] at hx; rcases hx with rfl | rfl <;> (unfold SmallS; simp)⟩
theorem lev_nil (w : World) : LevelsIs w (.slice none 0 0) [] := ⟨none, 0, rfl, by simp, by unfold maxLen; omega, by simp, Reads.none_, fun x hx => by cases hx⟩
def RetAB (n : Net) (cs : List (List UInt8)) (a b : Nat) (w : World) (e : Ending) (w' : World) : Prop :=
  ∃ (A : Option Addr) (h : Nat → Rat), e = .returned (.slice A n.nodes.length n.nodes.length) ∧ Eff n.nodes.length n.pipes.length n.pf n.pt (condOf cs) a b h ∧ Common n.nodes.length h 12735 ∧ RowT w' A n.nodes.length (fun k => str (fracText (h k))) ∧ Below w.heap.size w w'
theorem heads_ab (vn vc vl vb : Value) (n : Net) (cs : List (List UInt8)) (l : List Bool) (a b : Nat) (w : World) (hn : NetIs w vn n) (hc : NodesIs w vc cs) (hl : LevelsIs w vl (levAB a b)) (hb : BoolsIs w vb l) (hm : Marks n (fun k => (k : Int) ∈ [(a : Int)]) l)
    (h0 : n.err = 0) (hcn : condErr n cs = 0) (hN : n.nodes.length ≤ 6) (hp : n.pipes.length ≤ 9) (he : endErr n a b = 0) :
    Calls Tryz.prog 36 #[vn, vc, vl, .slice none 0 0, vb] w (RetAB n cs a b w) := by
  obtain ⟨e1, e2, e3, e4, e5, e6⟩ := endErr_ok he
  have hG := given_ab (b := b) h0 hcn hN hp (by omega : a < n.nodes.length) hm
  refine (water_heads vn vc vl (.slice none 0 0) vb n cs (levAB a b) [] l (condOf cs) (fixAB a b) (fun _ => 0) w hn hc hl (lev_nil w) hb (cond_get hcn).1 (fun i hi => ((cond_get hcn).2 i hi).1) (fun k _ => levAB_text k)
    (fun k _ => frac_zero.symm) hm.len (Net.err_zero h0).1.1.1.ends hG).mono ?_
  rintro e w' ⟨A, cap, h, rfl, rfl, hIs, hdz, hrd, hbl⟩
  exact ⟨A, h, rfl, eff_ab hG (by omega) (by omega) (by omega) hm (by simpa using e6) hIs, hG.commonE hIs, hrd, hbl⟩
theorem wq_plus {a b : Rat} (w : World) (ha : Short 50000 a) (hb : Short 50000 b) (h : Short 50000 (a + b)) : Calls Tryz.prog 38 #[str (fracText a), str (fracText b)] w (RetB w (str (fracText (a + b)))) := by
  have h1 := plus_call (fracText a) (fracText b) w (frac_small ha) (frac_small hb)
  unfold plusT at h1
  rw [op2_txt ha hb h] at h1
  exact h1
theorem wq_minus {a b : Rat} (w : World) (ha : Short 50000 a) (hb : Short 50000 b) (h : Short 50000 (a - b)) : Calls Tryz.prog 40 #[str (fracText a), str (fracText b)] w (RetB w (str (fracText (a - b)))) := by
  have h1 := minus_call (fracText a) (fracText b) w (frac_small ha) (frac_small hb)
  unfold minusT at h1
  rw [op2_txt ha hb h] at h1
  exact h1
theorem wq_times {a b : Rat} (w : World) (ha : Short 50000 a) (hb : Short 50000 b) (h : Short 50000 (a * b)) : Calls Tryz.prog 39 #[str (fracText a), str (fracText b)] w (RetB w (str (fracText (a * b)))) := by
  have h1 := times_call (fracText a) (fracText b) w (frac_small ha) (frac_small hb)
  unfold timesT at h1
  rw [op2_txt ha hb h] at h1
  exact h1
theorem flow_step (n : Net) (c h : Nat → Rat) {k i : Nat} (hne : n.pf i ≠ n.pt i) :
    flowTo (i + 1) n.pf n.pt c h k = if n.pf i = k then flowTo i n.pf n.pt c h k + c i * (h k - h (n.pt i)) else if n.pt i = k then flowTo i n.pf n.pt c h k + c i * (h k - h (n.pf i)) else flowTo i n.pf n.pt c h k := by
  rw [flowTo_succ]
  by_cases h1 : n.pf i = k
  · rw [if_pos h1, if_pos h1, if_neg (fun h2 => hne (h1.trans h2.symm)), h1]; grind
  · rw [if_neg h1, if_neg h1]
    by_cases h2 : n.pt i = k
    · rw [if_pos h2, if_pos h2, h2]; grind
    · rw [if_neg h2, if_neg h2]; grind
def IdxW (K : Nat) (f : Nat → Rat) (W : World) (sv iv : Value) (wr : World) : Prop := ∃ i : Nat, i ≤ K ∧ iv = .int .i64 i ∧ sv = str (fracText (f i)) ∧ Hid (Below W.heap.size W wr)
set_option maxRecDepth 100000 in
set_option maxHeartbeats 16000000 in
theorem water_Whole (vn vc : Value) (n : Net) (cs : List (List UInt8)) (a b : Int) (w : World) (hn : NetIs w vn n) (hc : NodesIs w vc cs) (hsz : n.err = 0 → n.nodes.length ≤ 6 ∧ n.pipes.length ≤ 9) :
    Calls Tryz.prog 12 #[vn, vc, .int .i64 a, .int .i64 b] w (RetWho n cs a b (wholeErr n cs a b) w) := by
  have h1 := fun w' (h : Below w.heap.size w w') => water_asked vn vc n cs w' (hn.below h) (hc.below h)
  have h2 := fun w' (h : Below w.heap.size w w') (h0 : n.err = 0) => water_ends vn n a b w' (hn.below h) h0
  have hjn := fun w' (h : Below w.heap.size w w') A (hr : Reads w' w'.heap.size 1 A 1 [.int .i64 a]) (ha : 0 ≤ a ∧ a < n.nodes.length) (h0 : n.err = 0) => water_joined vn (.slice A 1 1) n [a] w' (hn.below h) ⟨A, 1, rfl, by simp, by unfold maxLen; omega, by simp, hr⟩ (Net.err_zero h0).1.1.1.ends (by omega) (fun z hz => by simp at hz; subst hz; exact ha)
  have hhd := fun w' (h : Below w.heap.size w w') => water_heads vn vc
  have HNET := hide hn
  have HCN := hide hc
  obtain ⟨x, HX⟩ : ∃ x, Hid (askErr n cs = x) := ⟨_, hide rfl⟩
  obtain ⟨z, HZ⟩ : ∃ z, Hid (endErr n a b = z) := ⟨_, hide rfl⟩
  obtain ⟨y, HY⟩ : ∃ y, Hid (wholeErr n cs a b = y) := ⟨_, hide rfl⟩
  rw [HY.out]
  unfold wholeErr at HY
  rw [HX.out] at h1 HY
  rw [HZ.out] at h2 HY
  obtain ⟨Ac, cc, rfl, _⟩ := hc
  obtain ⟨A0, k0, c0, A1, k1, c1, A2, k2, c2, A3, k3, c3, rfl, hn0, hn1, hn2, hn3⟩ := hn
  have hk0 : k0 = n.nodes.length := by obtain ⟨A', c', e, _⟩ := hn0; injection e
  have hk1 : k1 = n.pipes.length := by obtain ⟨A', c', e, _⟩ := hn1; injection e
  have HK0 := hide hk0
  have HK1 := hide hk1
  have HN1 := hide hn1
  have HW := hide (ext_alloc w (.cells #[.slice A0 k0 c0, .slice A1 k1 c1, .slice A2 k2 c2, .slice A3 k3 c3] 26))
  have HK := hide (Blk.new w 26 #[.slice A0 k0 c0, .slice A1 k1 c1, .slice A2 k2 c2, .slice A3 k3 c3])
  clear hn0 hn1 hn2 hn3 hk0 hk1 hhd
  have HSZ := hide hsz
  have H2 := hide h2
  have HJN := hide hjn
  clear hsz h2 hjn
  have r0 := HK.out.cell 0
  have r1 := HK.out.cell 1
  have r2 := HK.out.cell 2
  have r3 := HK.out.cell 3
  have rL := HK.out.lt
  simp at r0 r1 r2 r3
  go_enter Tryz.func12, Tryz.ntmps12
  go_wp2_with fail
  refine (h1 _ HW.out).mono ?_
  rintro e WN ⟨rfl, hbB⟩
  try clear r0 r1 r2 r3 rL
  have HK_ := hide (HK.out.below hbB HK.out.lt)
  have HW_ := hide (ext HW.out hbB)
  clear HK HW
  have HK := HK_
  have HW := HW_
  clear HK_ HW_
  clear hbB
  have r0 := HK.out.cell 0
  have r1 := HK.out.cell 1
  have r2 := HK.out.cell 2
  have r3 := HK.out.cell 3
  have rL := HK.out.lt
  simp at r0 r1 r2 r3
  clear h1
  by_cases h0 : x = 0
  · subst h0
    have hz : n.err = 0 ∧ condErr n cs = 0 := by
      have h0 := HX.out
      unfold askErr at h0
      by_cases h3 : n.err = 0
      · rw [if_neg (by rw [h3]; decide)] at h0; exact ⟨h3, h0⟩
      · rw [if_pos h3] at h0; exact absurd h0 h3
    have HZ0 := hide hz
    clear hz
    go_wp2_with fail
    refine (H2.out _ HW.out HZ0.out.1).mono ?_
    rintro e WN ⟨rfl, hbB⟩
    try clear r0 r1 r2 r3 rL
    have HK_ := hide (HK.out.below hbB HK.out.lt)
    have HW_ := hide (ext HW.out hbB)
    clear HK HW
    have HK := HK_
    have HW := HW_
    clear HK_ HW_
    clear hbB
    have r0 := HK.out.cell 0
    have r1 := HK.out.cell 1
    have r2 := HK.out.cell 2
    have r3 := HK.out.cell 3
    have rL := HK.out.lt
    simp at r0 r1 r2 r3
    by_cases hz0 : z = 0
    · subst hz0
      have he := endErr_ok HZ.out
      obtain ⟨an, ha⟩ : ∃ an : Nat, a = (an : Int) := ⟨a.toNat, by omega⟩
      obtain ⟨bn, hb⟩ : ∃ bn : Nat, b = (bn : Int) := ⟨b.toNat, by omega⟩
      subst ha
      subst hb
      have HE := hide he
      have hyz : Hid (y = 0) := hide (by have := HY.out; rw [if_neg (show ¬ (0 : Int) ≠ 0 by simp)] at this; exact this.symm)
      clear he H2 HY
      go_upto_region 7 with fail
      go_cut [12] from 29 (fun s wc => ∃ (A9 : Option Addr) (h : Nat → Rat), s = .slice A9 n.nodes.length n.nodes.length ∧ Hid (Eff n.nodes.length n.pipes.length n.pf n.pt (condOf cs) an bn h) ∧ Hid (Common n.nodes.length h 12735) ∧
        Hid (RowT wc A9 n.nodes.length fun k => str (fracText (h k))) ∧ Hid (Blk wc w.heap.size 26 #[.slice A0 k0 c0, .slice A1 k1 c1, .slice A2 k2 c2, .slice A3 k3 c3]) ∧ Hid (Below w.heap.size w wc))
      case first =>
        have hj1 := HJN.out (((WN.alloc (.cells #[.int .i64 (an : Int), .string ⟨#[49]⟩, .int .i64 (bn : Int), .string ⟨#[48]⟩] 49)).alloc (.cells #[.int .i64 (an : Int)] 3)).drew) (ext HW.out (hid_alloc2_drawn WN _ _).out) (some ⟨WN.heap.size + 1, 0, none⟩) (reads_one2 WN _ _ _) ⟨HE.out.1, HE.out.2.1⟩ HZ0.out.1
        have hL := ((Blk.new WN 49 #[.int .i64 (an : Int), .string ⟨#[49]⟩, .int .i64 (bn : Int), .string ⟨#[48]⟩]).alloc (.cells #[.int .i64 (an : Int)] 3)).drew
        have HL0 := hide hL
        clear hL
        have hj3 := HJN.out ((WN.alloc (.cells #[.int .i64 (an : Int)] 3)).drew) (ext HW.out (hid_alloc_drawn WN _).out) (some ⟨WN.heap.size, 0, none⟩) (reads_one WN _ _) ⟨HE.out.1, HE.out.2.1⟩ HZ0.out.1
        have hj4 := HJN.out (((WN.alloc (.cells #[.int .i64 (an : Int)] 3)).alloc (.cells #[.int .i64 (an : Int), .string ⟨#[49]⟩, .int .i64 (bn : Int), .string ⟨#[48]⟩] 49)).drew) (ext HW.out (hid_alloc2_drawn WN _ _).out) (some ⟨WN.heap.size, 0, none⟩) (reads_one3 WN _ _ _) ⟨HE.out.1, HE.out.2.1⟩ HZ0.out.1
        have HL4 := hide (blk_two WN (.cells #[.int .i64 (an : Int)] 3) 49 #[.int .i64 (an : Int), .string ⟨#[49]⟩, .int .i64 (bn : Int), .string ⟨#[48]⟩])
        (first | (go_region_held3 (fun w' => Hid (Below WN.heap.size WN w') ∧ w'.cell? ⟨w.heap.size, 0, none⟩ = some (.slice A0 k0 c0) ∧ w'.cell? ⟨w.heap.size, 1, none⟩ = some (.slice A1 k1 c1) ∧ w'.cell? ⟨w.heap.size, 2, none⟩ = some (.slice A2 k2 c2) ∧ w'.cell? ⟨w.heap.size, 3, none⟩ = some (.slice A3 k3 c3) ∧ w.heap.size < w'.heap.size)
          (first
            | (with_reducible refine and_keep ?_ (fun hB => ⟨cellB hB rL r0, cellB hB rL r1, cellB hB rL r2, cellB hB rL r3, sizeB hB rL⟩); with_reducible exact hid_drawn _)
            | (go_split_ands; with_reducible refine and_keep ?_ (fun hB => ⟨cellB hB rL r0, cellB hB rL r1, cellB hB rL r2, cellB hB rL r3, sizeB hB rL⟩); first | with_reducible exact hid_below (by assumption) (by assumption) | with_reducible exact hid_alloc (by assumption) | with_reducible exact hid_alloc_drawn _ _ | (with_reducible exact hid_alloc2_drawn _ _ _) | (with_reducible exact hid_alloc (hid_below (by assumption) (by assumption)))))
          (first
            | (go_at_call 37; (with_reducible refine hj1.mono ?_); rintro e w1 ⟨v1, l, rfl, hv1, hm, hb1⟩; have HV := hide hv1; have HM := hide hm; have HL := hide (lev_is (HL0.out.below hb1 HL0.out.lt)); have HBW := hide (ext HW.out (ext (hid_alloc2_drawn WN _ _).out hb1)); clear hv1 hm)
            | (go_at_call 36; (with_reducible refine (heads_ab (.agg #[.slice A0 k0 c0, .slice A1 k1 c1, .slice A2 k2 c2, .slice A3 k3 c3]) (.slice Ac cs.length cc) _ _ n cs l an bn _ (HNET.out.below HBW.out) (HCN.out.below HBW.out) HL.out HV.out HM.out HZ0.out.1 HZ0.out.2 (HSZ.out HZ0.out.1).1 (HSZ.out HZ0.out.1).2 HZ.out).mono ?_); rintro e w2 ⟨A9, h, rfl, hEff, hCom, hrd, hb2⟩; have HEF := hide hEff; have HCO := hide hCom; have HRD := hide hrd; clear hEff hCom hrd)
            | (go_at_call 37; (with_reducible refine hj3.mono ?_); rintro e w1 ⟨v1, l, rfl, hv1, hm, hb1⟩; have HV := hide (hv1.below (ext_alloc w1 (.cells #[.int .i64 (an : Int), .string ⟨#[49]⟩, .int .i64 (bn : Int), .string ⟨#[48]⟩] 49))); have HM := hide hm; have HL := hide (lev_is (Blk.new w1 49 #[.int .i64 (an : Int), .string ⟨#[49]⟩, .int .i64 (bn : Int), .string ⟨#[48]⟩])); have HBW := hide (ext HW.out (ext (ext (hid_alloc_drawn WN _).out hb1) (ext_alloc w1 (.cells #[.int .i64 (an : Int), .string ⟨#[49]⟩, .int .i64 (bn : Int), .string ⟨#[48]⟩] 49)))); clear hv1 hm)
            | (go_at_call 37; (with_reducible refine hj4.mono ?_); rintro e w1 ⟨v1, l, rfl, hv1, hm, hb1⟩; have HV := hide hv1; have HM := hide hm; have HL := hide (lev_is (HL4.out.below hb1 HL4.out.lt)); have HBW := hide (ext HW.out (ext (hid_alloc2_drawn WN _ _).out hb1)); clear hv1 hm))) | fail "region")
        all_goals
          go_split_ands
          have HBZ := unhide (by assumption : Hid (Below WN.heap.size WN _))
          obtain ⟨w4, hWX, HBY⟩ := (⟨_, rfl, HBZ⟩ : ∃ X, X = _ ∧ Below WN.heap.size WN X)
          rw [← hWX] at HRD ⊢
          clear hWX HBZ
          try clear r0 r1 r2 r3 rL
          have HK_ := hide (HK.out.below HBY HK.out.lt)
          have HW_ := hide (ext HW.out HBY)
          clear HK HW
          have HK := HK_
          have HW := HW_
          clear HK_ HW_
          clear HBY
          have r0 := HK.out.cell 0
          have r1 := HK.out.cell 1
          have r2 := HK.out.cell 2
          have r3 := HK.out.cell 3
          have rL := HK.out.lt
          simp at r0 r1 r2 r3
        all_goals
          go_wp2_with fail
          go_meet
          exact ⟨A9, h, rfl, HEF, HCO, HRD, HK, HW⟩
      case rest =>
        clear HK HW r0 r1 r2 r3 rL HJN
        obtain ⟨A9, h, rfl, HEF, HCO, HRD, HK, HW⟩ := hcut
        have r0 := HK.out.cell 0
        have r1 := HK.out.cell 1
        have r2 := HK.out.cell 2
        have r3 := HK.out.cell 3
        have rL := HK.out.lt
        simp at r0 r1 r2 r3
        have HEN := hide (Net.err_zero HZ0.out.1).1.1.1.ends
        have HCG := hide (cond_get HZ0.out.2)
        have HNP := hide (HSZ.out HZ0.out.1).2
        obtain ⟨S, HT⟩ : ∃ S, Hid (Terms n.nodes.length n.pipes.length (condOf cs) h S (12735 + 108)) := terms_of (fun i hi => short_dz (HCG.out.2 i (by have := HCG.out.1; omega)).2.1) HNP.out HCO.out
        have hk1000 : k1 ≤ 9 := by have := HNP.out; have := HK1.out; omega
        have HAN := hide HEF.out.ha
        generalize hN : n.nodes.length = N at HRD HT HCO HEF HAN HK0 ⊢
        have HN := hide hN
        clear hN
        go_wp2_with fail
        rw [show ([48] : List UInt8) = fracText (flowTo 0 n.pf n.pt (condOf cs) h an) from frac_zero.symm]
        clear r0 r1 r2 r3 rL
        go_loopw [13, 44] (IdxW k1 (fun i => flowTo i n.pf n.pt (condOf cs) h an) wc) (fun _ iv _ => k1 - (intOf iv).toNat)
        case atStart => exact ⟨0, Nat.zero_le _, rfl, rfl, hide (ext_refl wc)⟩
        case round =>
          obtain ⟨i, hi, rfl, rfl, HWR⟩ := hrel
          by_cases hil : i < k1
          · have hin : i < n.pipes.length := by have := HK1.out; omega
            have hii : (i : Int) < (k1 : Int) := by omega
            obtain ⟨ad, e1, hb, p0, p1, p2, p3, p4⟩ := (HN1.out.below (ext HW.out HWR.out)).at_ hin
            subst e1
            have hic : i < cs.length := by have := HCG.out.1; omega
            obtain ⟨ac, e2, lc, qc⟩ := cond_at (HCN.out.below (ext HW.out HWR.out)) hic
            subst e2
            have hci := HCG.out.2 i hic
            rw [hci.1] at qc
            have hcs : Short 50000 (condOf cs i) := Dz.short (Short.sz hci.2.1) (show 12 < 50000 by omega)
            have hcc : numOf (cs.getD i []) = condOf cs i := rfl
            rw [hcc] at qc
            obtain ⟨q1, q2, q3, q4⟩ := HEN.out i hin
            rw [q1] at p1
            rw [q3] at p2
            have hf0 : n.pf i < N := HEF.out.piped.from_lt i hin
            have ht0 : n.pt i < N := HEF.out.piped.to_lt i hin
            have hne : n.pf i ≠ n.pt i := HEF.out.piped.ne i hin
            obtain ⟨a9, e3, l9, h9⟩ := (HRD.out.below HWR.out).at_ hf0
            subst e3
            have u1 := h9 _ hf0
            have u2 := h9 _ ht0
            have hx := ext_alloc wr (.cells #[str n.pipes[i].name, .int .i64 (n.pf i : Int), .int .i64 (n.pt i : Int), str n.pipes[i].low, str n.pipes[i].high] 47)
            have hff : (n.pf i : Int) < (N : Int) := by omega
            have htt : (n.pt i : Int) < (N : Int) := by omega
            have hll : (i : Int) < (cs.length : Int) := by omega
            have hst := flow_step n (condOf cs) h (k := an) hne
            have s0 : Short 50000 (flowTo i n.pf n.pt (condOf cs) h an) := HT.out.flow_short (by omega) HEF.out.piped HNP.out an (by omega)
            have s9 : Short 50000 (flowTo (i + 1) n.pf n.pt (condOf cs) h an) := HT.out.flow_short (by omega) HEF.out.piped HNP.out an (by omega)
            clear hci hcc q1 q2 q3 q4 h9
            by_cases hp1 : n.pf i = an
            · rw [if_pos hp1] at hst
              have hI1 : ((an : Int) == (n.pf i : Int)) = true := by rw [beq_iff_eq, hp1]
              clear hp1
              have hea := HEF.out.ea
              have s1 : Short 50000 (1 - h (n.pt i)) := by rw [← hea]; exact HCO.out.diff (by omega) HAN.out ht0
              have s2 : Short 50000 (condOf cs i * (1 - h (n.pt i))) := by rw [← hea]; exact HT.out.short (by omega) hin HAN.out ht0
              have sx : Short 50000 (h (n.pt i)) := Dz.short (HCO.out.get ht0) (by omega)
              rw [hea] at hst
              rw [hst] at s9
              have hmi := fun w' => wq_minus w' (Dz.short dz_one (by omega)) sx s1
              have htm := fun w' => wq_times w' hcs s1 s2
              have hpl := fun w' => wq_plus w' s0 s2 s9
              rw [frac_one] at hmi
              have HNX := hide (congrArg fracText hst)
              generalize hX1 : fracText (h (n.pt i)) = x1 at u2 hmi
              generalize hX2 : fracText (1 - h (n.pt i)) = x2 at hmi htm
              generalize hX3 : fracText (condOf cs i * (1 - h (n.pt i))) = x3 at htm hpl
              generalize hX4 : fracText (condOf cs i) = x4 at htm qc
              generalize hX5 : fracText (flowTo i n.pf n.pt (condOf cs) h an + condOf cs i * (1 - h (n.pt i))) = x5 at hpl HNX
              generalize hX6 : fracText (flowTo i n.pf n.pt (condOf cs) h an) = x6 at hpl ⊢
              clear s0 s1 s2 s9 sx hst hea hcs hne hf0 ht0 hX1 hX2 hX3 hX4 hX5 hX6
              go_wp2_with fail
              have HP := hide (Blk.new wr 47 #[str n.pipes[i].name, .int .i64 (n.pf i : Int), .int .i64 (n.pt i : Int), str n.pipes[i].low, str n.pipes[i].high])
              have u2 := (hx.cell (by rw [block_of_add]; exact l9)).trans u2
              have qc := (hx.cell (by rw [block_of_add]; exact lc)).trans qc
              have l9 := Nat.lt_of_lt_of_le l9 hx.size
              have lc := Nat.lt_of_lt_of_le lc hx.size
              clear p0 p1 p2 p3 p4 hb u1
              have HWR_ := hide (ext HWR.out hx)
              clear HWR
              have HWR := HWR_
              clear HWR_
              generalize wr.alloc (.cells #[str n.pipes[i].name, .int .i64 (n.pf i : Int), .int .i64 (n.pt i : Int), str n.pipes[i].low, str n.pipes[i].high] 47) = WP at HP HWR hx u2 qc l9 lc ⊢
              generalize wr.heap.size = q at HP ⊢
              clear hx
              have c1 := HP.out.cell 1
              have c2 := HP.out.cell 2
              have cL := HP.out.lt
              simp only [List.getElem?_toArray, List.getElem?_cons_succ, List.getElem?_cons_zero] at c1 c2
              clear HP
              have c2g := grown_cell cL c2
              have qcg := grown_acell lc qc
              have u2g := grown_acell l9 u2
              refine wp_region_grown (by kernel_rfl) (by kernel_rfl) ?_
              repeat (quiet_step (first | (go_at_call 40; exact call_grown (hmi _)) | (go_at_call 39; exact call_grown (htm _)) | (go_at_call 38; exact call_grown (hpl _))))
              refine wpQuiet_nil ?_
              rintro w9 ⟨t9, rfl⟩
              clear c2g qcg u2g
              have hbB := grown_below WP t9
              have HWR_ := hide (ext HWR.out hbB)
              clear HWR
              have HWR := HWR_
              clear HWR_
              generalize grown WP t9 = WQ at hbB HWR ⊢
              clear t9
              clear c1 c2 cL qc lc u2 l9 hbB hmi htm hpl
              go_wp2_with fail
              go_round
              case rel => exact ⟨i + 1, by omega, by go_num, congrArg str HNX.out.symm, HWR⟩
              case measure => simp [intOf]; omega
            · rw [if_neg hp1] at hst
              have hI1 : ((an : Int) == (n.pf i : Int)) = false := by rw [beq_eq_false_iff_ne]; omega
              clear hp1
              by_cases hp2 : n.pt i = an
              · rw [if_pos hp2] at hst
                have hI2 : ((an : Int) == (n.pt i : Int)) = true := by rw [beq_iff_eq, hp2]
                clear hp2
                have hea := HEF.out.ea
                have s1 : Short 50000 (1 - h (n.pf i)) := by rw [← hea]; exact HCO.out.diff (by omega) HAN.out hf0
                have s2 : Short 50000 (condOf cs i * (1 - h (n.pf i))) := by rw [← hea]; exact HT.out.short (by omega) hin HAN.out hf0
                have sx : Short 50000 (h (n.pf i)) := Dz.short (HCO.out.get hf0) (by omega)
                rw [hea] at hst
                rw [hst] at s9
                have hmi := fun w' => wq_minus w' (Dz.short dz_one (by omega)) sx s1
                have htm := fun w' => wq_times w' hcs s1 s2
                have hpl := fun w' => wq_plus w' s0 s2 s9
                rw [frac_one] at hmi
                have HNX := hide (congrArg fracText hst)
                generalize hX1 : fracText (h (n.pf i)) = x1 at u1 hmi
                generalize hX2 : fracText (1 - h (n.pf i)) = x2 at hmi htm
                generalize hX3 : fracText (condOf cs i * (1 - h (n.pf i))) = x3 at htm hpl
                generalize hX4 : fracText (condOf cs i) = x4 at htm qc
                generalize hX5 : fracText (flowTo i n.pf n.pt (condOf cs) h an + condOf cs i * (1 - h (n.pf i))) = x5 at hpl HNX
                generalize hX6 : fracText (flowTo i n.pf n.pt (condOf cs) h an) = x6 at hpl ⊢
                clear s0 s1 s2 s9 sx hst hea hcs hne hf0 ht0 hX1 hX2 hX3 hX4 hX5 hX6
                go_wp2_with fail
                have HP := hide (Blk.new wr 47 #[str n.pipes[i].name, .int .i64 (n.pf i : Int), .int .i64 (n.pt i : Int), str n.pipes[i].low, str n.pipes[i].high])
                have u1 := (hx.cell (by rw [block_of_add]; exact l9)).trans u1
                have qc := (hx.cell (by rw [block_of_add]; exact lc)).trans qc
                have l9 := Nat.lt_of_lt_of_le l9 hx.size
                have lc := Nat.lt_of_lt_of_le lc hx.size
                clear p0 p1 p2 p3 p4 hb u2
                have HWR_ := hide (ext HWR.out hx)
                clear HWR
                have HWR := HWR_
                clear HWR_
                generalize wr.alloc (.cells #[str n.pipes[i].name, .int .i64 (n.pf i : Int), .int .i64 (n.pt i : Int), str n.pipes[i].low, str n.pipes[i].high] 47) = WP at HP HWR hx u1 qc l9 lc ⊢
                generalize wr.heap.size = q at HP ⊢
                clear hx
                have c1 := HP.out.cell 1
                have c2 := HP.out.cell 2
                have cL := HP.out.lt
                simp only [List.getElem?_toArray, List.getElem?_cons_succ, List.getElem?_cons_zero] at c1 c2
                clear HP
                have c1g := grown_cell cL c1
                have qcg := grown_acell lc qc
                have u1g := grown_acell l9 u1
                refine wp_region_grown (by kernel_rfl) (by kernel_rfl) ?_
                repeat (quiet_step (first | (go_at_call 40; exact call_grown (hmi _)) | (go_at_call 39; exact call_grown (htm _)) | (go_at_call 38; exact call_grown (hpl _))))
                refine wpQuiet_nil ?_
                rintro w9 ⟨t9, rfl⟩
                clear c1g qcg u1g
                have hbB := grown_below WP t9
                have HWR_ := hide (ext HWR.out hbB)
                clear HWR
                have HWR := HWR_
                clear HWR_
                generalize grown WP t9 = WQ at hbB HWR ⊢
                clear t9
                clear c1 c2 cL qc lc u1 l9 hbB hmi htm hpl
                go_wp2_with fail
                go_round
                case rel => exact ⟨i + 1, by omega, by go_num, congrArg str HNX.out.symm, HWR⟩
                case measure => simp [intOf]; omega
              · rw [if_neg hp2] at hst
                have hI2 : ((an : Int) == (n.pt i : Int)) = false := by rw [beq_eq_false_iff_ne]; omega
                have HNX := hide (congrArg fracText hst)
                generalize fracText (flowTo i n.pf n.pt (condOf cs) h an) = x6 at HNX ⊢
                clear s0 s9 hst hcs hne hp2 hf0 ht0 u1 u2 qc lc l9
                go_wp2_with fail
                have HWR_ := hide (ext HWR.out hx)
                clear HWR
                have HWR := HWR_
                clear HWR_
                go_round
                case rel => exact ⟨i + 1, by omega, by go_num, congrArg str HNX.out.symm, HWR⟩
                case measure => simp [intOf]; omega
          · obtain rfl : k1 = i := by omega
            go_wp2_with fail
            go_ret2
            refine ⟨ext HW.out HWR.out, .inr ⟨hyz.out, h, ?_, ?_, ?_⟩⟩
            · rw [HN.out]; exact HEF.out
            · rw [HN.out]; exact HCO.out
            · rw [← HK1.out]; rfl
    · have hI : (z != 0) = true := by rw [bne_iff_ne]; exact hz0
      have hyz : Hid (y = z) := hide (by have := HY.out; rw [if_neg (show ¬ (0 : Int) ≠ 0 by simp)] at this; exact this.symm)
      have HNE := hide hz0
      clear hz0 H2 HY HJN
      go_wp2_with fail
      go_ret2
      rw [hyz.out]
      exact ⟨HW.out, .inl ⟨HNE.out, rfl⟩⟩
  · have hI : (x != 0) = true := by rw [bne_iff_ne]; exact h0
    have hyz : Hid (y = x) := hide (by have := HY.out; rw [if_pos h0] at this; exact this.symm)
    have HNE := hide h0
    clear h0 H2 HY HJN
    go_wp2_with fail
    go_ret2
    rw [hyz.out]
    exact ⟨HW.out, .inl ⟨HNE.out, rfl⟩⟩
  end Go.Proofs.YtdecgcdkaaiglaaGreat
namespace Go.Proofs.YtdecgcdkaaiglaaGreat
open Go.RowKit Go.Deep
attribute [local go_sem ↓] Go.wp_at_zero Go.wp_at_succ
/-- is a number at most another one? -/
def atMostB (la lb : List UInt8) : Bool := match readFrac la, readFrac lb with
  | some x, some y => decide (x ≤ y)
  | _, _ => false
theorem cmpQ_le (x y : Rat) : decide (cmpQ x y ≤ 0) = decide (x ≤ y) := by
  unfold cmpQ
  apply decide_eq_decide.2
  by_cases h1 : x < y
  · rw [if_pos h1]; constructor
    · intro _; grind
    · intro _; decide
  · rw [if_neg h1]
    by_cases h2 : y < x
    · rw [if_pos h2]; constructor
      · intro h; exact absurd h (by decide)
      · intro h; grind
    · rw [if_neg h2]; constructor
      · intro _; grind
      · intro _; decide
theorem atMostB_yes {la lb : List UInt8} {x y : Rat} (ha : readFrac la = some x) (hb : readFrac lb = some y) : atMostB la lb = decide (x ≤ y) := by unfold atMostB; rw [ha, hb]
set_option maxRecDepth 100000 in
set_option maxHeartbeats 4000000 in
theorem law_atMost (la lb : List UInt8) (w : World) (ha : SmallS la) (hb : SmallS lb) : Calls Tryz.prog 10 #[str la, str lb] w (RetB w (.bool (atMostB la lb))) := by
  have hc := fun w => Cmp_any ⟨la.toArray⟩ ⟨lb.toArray⟩ w (smallS_size ha) (smallS_size hb)
  rw [bts_mk, bts_mk] at hc
  unfold RetI2 cmp2 at hc
  obtain ⟨r, HR⟩ : ∃ r, Hid (atMostB la lb = r) := ⟨_, hide rfl⟩
  rw [HR.out]
  unfold atMostB at HR
  clear ha hb
  cases hx : readFrac la with
  | none =>
    rw [hx] at hc HR
    have HF : Hid (r = false) := hide HR.out.symm
    have hI : ((4 : Int) == 0) = false := by decide
    clear hx HR
    go_enter Tryz.func10, Tryz.ntmps10
    go_wp2_with fail
    refine (hc _).mono ?_
    rintro e w1 ⟨rfl, hb1⟩
    have HW := hide hb1
    clear hb1 hc
    go_wp2_with fail
    go_ret
    exact ⟨ret_bool HF.out, HW.out⟩
  | some x =>
    cases hy : readFrac lb with
    | none =>
      rw [hx, hy] at hc HR
      have HF : Hid (r = false) := hide HR.out.symm
      have hI : ((4 : Int) == 0) = false := by decide
      clear hx hy HR
      go_enter Tryz.func10, Tryz.ntmps10
      go_wp2_with fail
      refine (hc _).mono ?_
      rintro e w1 ⟨rfl, hb1⟩
      have HW := hide hb1
      clear hb1 hc
      go_wp2_with fail
      go_ret
      exact ⟨ret_bool HF.out, HW.out⟩
    | some y =>
      rw [hx, hy] at hc HR
      have HF : Hid (r = decide (cmpQ x y ≤ 0)) := hide (by rw [cmpQ_le]; exact HR.out.symm)
      clear hx hy HR
      go_enter Tryz.func10, Tryz.ntmps10
      go_wp2_with fail
      refine (hc _).mono ?_
      rintro e w1 ⟨rfl, hb1⟩
      have HW := hide hb1
      clear hb1 hc
      go_wp2_with fail
      go_ret
      exact ⟨ret_bool HF.out, HW.out⟩
/-- texts in a block of the call's own, and more behind them -/
def TxtIs (w : World) (g : Nat) (l : List (List UInt8)) (rest : List Value) : Prop := Blk w g 28 (l.map str ++ rest).toArray
section
variable {w w' : World} {g : Nat} {l : List (List UInt8)} {rest : List Value}
theorem TxtIs.cell (h : TxtIs w g l rest) {k : Nat} (hk : k < l.length) : w.cell? ⟨g, k, none⟩ = some (str l[k]) := by
  unfold TxtIs at h
  rw [h.cell k, List.getElem?_toArray, List.getElem?_append_left (by simpa using hk)]
  simp [hk]
theorem TxtIs.set_ (h : TxtIs w g l rest) {k : Nat} (hk : k < l.length) (b : List UInt8) : TxtIs (w.setCell ⟨g, k, none⟩ (str b)) g (l.set k b) rest := by
  unfold TxtIs at h ⊢
  have := h.set_ k (str b)
  rw [List.setIfInBounds_toArray, List.set_append_left _ _ (by simpa using hk)] at this
  rw [show (l.set k b).map str = (l.map str).set k (str b) by simp [List.map_set]]
  exact this
theorem TxtIs.lt (h : TxtIs w g l rest) : g < w.heap.size := Blk.lt h
theorem TxtIs.frozen (h : TxtIs w g l rest) (k : Nat) : w.frozen? ⟨g, k, none⟩ = false := Blk.frozen h k
theorem TxtIs.below (h : TxtIs w g l rest) (hb : Below w.heap.size w w') : TxtIs w' g l rest := Blk.below h hb h.lt
theorem TxtIs.nodes {n c : Nat} (h : TxtIs w g l rest) (hn : n = l.length) (hnc : n ≤ c) (hc : c ≤ maxLen) (hs : ∀ x ∈ l, SmallS x) (h1 : l.length ≤ 1000) : NodesIs w (.slice (some ⟨g, 0, none⟩) n c) l := by
  subst hn
  refine ⟨_, c, rfl, hnc, hc, h1, ?_, hs⟩
  unfold TxtIs at h
  have := h.reads (n := l.length) (by simp)
  simpa [List.take_append_of_le_length, List.take_of_length_le] using this
theorem own_texts {base n : Nat} {v : Value} (h : w.ownsRow base 28 1 v n (l.map str)) (hn : 0 < n) :
    ∃ g c rest, v = .slice (some ⟨g, 0, none⟩) n c ∧ base ≤ g ∧ l.length = n ∧ TxtIs w g l rest ∧ n ≤ c ∧ c ≤ maxLen := by
  have hl : l.length = n := by have := h.1; simp at this; omega
  rcases h.2 with ⟨_, h0⟩ | ⟨g, cap, cur, hv, hb, hg, hnc, hcm, hcs, ht⟩
  · omega
  · refine ⟨g, cap, cur.toList.drop n, hv, hb, hl, ?_, hnc, hcm⟩
    unfold TxtIs Blk
    rw [hg]
    congr 2
    rw [← ht, Nat.mul_one, List.take_append_drop]
end
theorem short_text {l : List UInt8} {q : Rat} {M : Nat} (h : readFrac l = some q) (hl : l.length ≤ M) (hM : 1 ≤ M) : Dz M q := by
  have e := (readFrac_some.1 h).1
  have h1 : (dec q.num.natAbs).length ≤ l.length := by
    rw [e]; unfold fracText
    rw [List.length_append, List.length_append]; omega
  have h2 : (dec q.den).length ≤ M := by
    by_cases hd : q.den = 1
    · rw [hd, dec1]; exact hM
    · have : (dec q.den).length ≤ l.length := by
        rw [e]; unfold fracText
        rw [List.length_append, if_neg hd, List.length_cons]; omega
      omega
  exact Short.sz ⟨by omega, h2⟩
/-- texts, the first i of them t times as great -/
def mixT (cs : List (List UInt8)) (t : Rat) (i : Nat) : List (List UInt8) := (List.range cs.length).map fun j => if j < i then fracText (condOf cs j * t) else cs.getD j []
theorem mixT_length (cs : List (List UInt8)) (t : Rat) (i : Nat) : (mixT cs t i).length = cs.length := by simp [mixT]
theorem mixT_get {cs : List (List UInt8)} {t : Rat} {i j : Nat} (hj : j < (mixT cs t i).length) : (mixT cs t i)[j] = if j < i then fracText (condOf cs j * t) else cs.getD j [] := by simp [mixT]
theorem mixT_zero (cs : List (List UInt8)) (t : Rat) : mixT cs t 0 = cs := by
  apply List.ext_getElem (mixT_length _ _ _)
  intro j h1 h2
  rw [mixT_get, if_neg (by omega)]
  simp [List.getD, List.getElem?_eq_getElem h2]
theorem mixT_set {cs : List (List UInt8)} {t : Rat} {i : Nat} (hi : i < cs.length) : (mixT cs t i).set i (fracText (condOf cs i * t)) = mixT cs t (i + 1) := by
  apply List.ext_getElem (by simp [mixT_length])
  intro j h1 h2
  rw [List.getElem_set]
  by_cases h : i = j
  · subst h; rw [if_pos rfl, mixT_get, if_pos (by omega)]
  · rw [if_neg h, mixT_get, mixT_get]
    by_cases h3 : j < i
    · rw [if_pos h3, if_pos (by omega)]
    · rw [if_neg h3, if_neg (by omega)]
theorem cond_of_text {l : List (List UInt8)} {i : Nat} {q : Rat} (hi : i < l.length) (h : l[i] = fracText q) (hq : Short 50000 q) : condOf l i = q := by
  unfold condOf
  have e : l.getD i [] = fracText q := by simp [List.getD, List.getElem?_eq_getElem hi, h]
  rw [e]
  unfold numOf
  rw [readFrac_text hq]; rfl
theorem cond_set {cs : List (List UInt8)} {p i : Nat} {q : Rat} (hp : p < cs.length) (hq : Short 50000 q) : condOf (cs.set p (fracText q)) i = if i = p then q else condOf cs i := by
  by_cases h : i = p
  · subst h
    rw [if_pos rfl]
    exact cond_of_text (by simpa using hp) (by simp) hq
  · rw [if_neg h]
    unfold condOf
    congr 1
    simp only [List.getD, List.getElem?_set]
    rw [if_neg (fun e => h e.symm)]
theorem cond_mix {cs : List (List UInt8)} {t : Rat} {i : Nat} (hi : i < cs.length) (hq : Short 50000 (condOf cs i * t)) : condOf (mixT cs t cs.length) i = condOf cs i * t :=
  cond_of_text (by rw [mixT_length]; exact hi) (by rw [mixT_get, if_pos hi]) hq
theorem Terms.flow_dz {N np F : Nat} {pf pt : Nat → Nat} {c h : Nat → Rat} {S : Int} (t : Terms N np c h S F) (hp : Piped N np pf pt c) (hnp : np ≤ 9) (k : Nat) : Dz (F + 3) (flowTo np pf pt c h k) :=
  (t.flow hp hnp k (Nat.le_refl _)).sz t.1 (Nat.le_refl _) (Nat.le_trans t.2.1 (Nat.pow_le_pow_right (by omega) (by omega)))
theorem whole_short {n : Net} {cs : List (List UInt8)} {a b : Nat} {h : Nat → Rat} (he : Eff n.nodes.length n.pipes.length n.pf n.pt (condOf cs) a b h) (hC : Common n.nodes.length h 12735) (hc : condErr n cs = 0) (hp : n.pipes.length ≤ 9) :
    Dz (12735 + 108 + 3) (condAt n.pipes.length n.pf n.pt (condOf cs) a h) := by
  obtain ⟨hl, hcs⟩ := cond_get hc
  obtain ⟨S, hT⟩ := terms_of (fun i hi => short_dz (hcs i (by omega)).2.1) hp hC
  exact hT.flow_dz he.piped hp a
/-- what is told of more conductance -/
theorem told_more {n : Net} {cs ds : List (List UInt8)} {a b : Int} {y : Int} {w w' : World} {e : Ending} {h : Nat → Rat} (hE : Eff n.nodes.length n.pipes.length n.pf n.pt (condOf cs) a.toNat b.toNat h)
    (hd : ∀ i, i < n.pipes.length → condOf cs i ≤ condOf ds i) (hy : wholeErr n ds a b = y) (hp : n.pipes.length ≤ 9) (hr : RetWho n ds a b y w e w') :
    Below w.heap.size w w' ∧ ∃ s : List UInt8, e = .returned (.tuple #[str s, .int .i64 y]) ∧ (y = 0 → ∃ q, s = fracText q ∧ Short 50000 q ∧ condAt n.pipes.length n.pf n.pt (condOf cs) a.toNat h ≤ q) := by
  obtain ⟨hb, ⟨h0, rfl⟩ | ⟨h0, g, hg, hC, rfl⟩⟩ := hr
  · exact ⟨hb, [], rfl, fun h => absurd h h0⟩
  · refine ⟨hb, _, by rw [h0], fun _ => ⟨_, rfl, ?_, hE.mono hg hd⟩⟩
    have hc : condErr n ds = 0 := by
      rw [h0] at hy
      unfold wholeErr at hy
      by_cases h3 : askErr n ds = 0
      · unfold askErr at h3
        by_cases h4 : n.err = 0
        · rw [if_neg (by rw [h4]; decide)] at h3; exact h3
        · rw [if_pos h4] at h3; exact absurd h3 h4
      · rw [if_pos h3] at hy; exact absurd hy h3
    exact Dz.short (whole_short hg hC hc hp) (by omega)
theorem told_all {n : Net} {cs ds : List (List UInt8)} {a b : Int} {y : Int} {w w' : World} {e : Ending} {h : Nat → Rat} {t : Rat} (hE : Eff n.nodes.length n.pipes.length n.pf n.pt (condOf cs) a.toNat b.toNat h)
    (hd : ∀ i, i < n.pipes.length → condOf ds i = t * condOf cs i) (hr : RetWho n ds a b y w e w') :
    Below w.heap.size w w' ∧ ∃ s : List UInt8, e = .returned (.tuple #[str s, .int .i64 y]) ∧ (y = 0 → s = fracText (condAt n.pipes.length n.pf n.pt (condOf cs) a.toNat h * t)) := by
  obtain ⟨hb, ⟨h0, rfl⟩ | ⟨h0, g, hg, hC, rfl⟩⟩ := hr
  · exact ⟨hb, [], rfl, fun h => absurd h h0⟩
  · refine ⟨hb, _, by rw [h0], fun _ => ?_⟩
    rw [hE.times hg hd, Rat.mul_comm]
theorem grows_le {c t : Rat} (hc : 0 < c) (ht : 1 ≤ t) : c ≤ c * t := by
  have := Rat.mul_nonneg (a := c) (b := t - 1) (by grind) (by grind)
  grind
end Go.Proofs.YtdecgcdkaaiglaaGreat
namespace Go.Proofs.YtdecgcdkaaiglaaGreat
open Go.RowKit Go.Deep
attribute [local go_sem ↓] Go.wp_at_zero Go.wp_at_succ
def MixR (cs : List (List UInt8)) (t : Rat) (g : Nat) (rest : List Value) (W : World) (iv : Value) (wr : World) : Prop :=
  ∃ i : Nat, i ≤ cs.length ∧ iv = .int .i64 i ∧ Hid (TxtIs wr g (mixT cs t i) rest) ∧ Hid (Below W.heap.size W wr)
set_option maxRecDepth 100000 in
set_option maxHeartbeats 32000000 in
theorem law_grows (v va : Value) (n : Net) (x : Ask) (w : World) (hn : NetWide w v n) (hx : AskWide w va x) : Calls Tryz.prog 3 #[v, va] w (RetB w (.bool true)) := by
  have hgr := fun w' (h : Below w.heap.size w w') => law_great v n w' (hn.below h)
  have hwi := fun w' (h : Below w.heap.size w w') => law_wide va x w' (hx.below h)
  cases hg : isGreat n with
  | true =>
    rw [hg] at hgr
    obtain ⟨A0, c0, A1, c1, A2, c2, A3, c3, rfl, _⟩ := hn
    obtain ⟨B0, d0, B1, d1, B2, d2, B3, d3, B4, d4, rfl, _⟩ := hx
    clear hg hwi
    have HW := hide (ext (ext_alloc w (.cells #[.slice A0 n.nodes.length c0, .slice A1 n.pipes.length c1, .slice A2 n.heads.length c2, .slice A3 n.wells.length c3] 26)) (ext_alloc _ (.cells #[.slice B0 x.cond.length d0, .slice B1 x.heads.length d1, .slice B2 x.flows.length d2, .int .i64 x.node, .int .i64 x.pipe, .int .i64 x.a, .int .i64 x.b, str x.first, str x.second, .slice B3 x.wells.length d3, .slice B4 x.limits.length d4] 31)))
    go_enter Tryz.func3, Tryz.ntmps3
    go_wp2_with fail
    refine (hgr _ HW.out).mono ?_
    rintro e WN ⟨rfl, hbB⟩
    have HW_ := hide (ext HW.out hbB)
    clear HW
    have HW := HW_
    clear HW_
    clear hbB
    go_wp2_with fail
    refine (law_lives _).mono ?_
    rintro e WN ⟨rfl, hbB⟩
    have HW_ := hide (ext HW.out hbB)
    clear HW
    have HW := HW_
    clear HW_
    clear hbB
    go_wp2_with fail
    go_ret
    exact ⟨rfl, HW.out⟩
  | false =>
    rw [hg] at hgr
    have hni := hn.small hg
    cases hw : isWide x with
    | true =>
      rw [hw] at hwi
      obtain ⟨A0, c0, A1, c1, A2, c2, A3, c3, rfl, _⟩ := hn
      obtain ⟨B0, d0, B1, d1, B2, d2, B3, d3, B4, d4, rfl, _⟩ := hx
      clear hg hni hw
      have HW := hide (ext (ext_alloc w (.cells #[.slice A0 n.nodes.length c0, .slice A1 n.pipes.length c1, .slice A2 n.heads.length c2, .slice A3 n.wells.length c3] 26)) (ext_alloc _ (.cells #[.slice B0 x.cond.length d0, .slice B1 x.heads.length d1, .slice B2 x.flows.length d2, .int .i64 x.node, .int .i64 x.pipe, .int .i64 x.a, .int .i64 x.b, str x.first, str x.second, .slice B3 x.wells.length d3, .slice B4 x.limits.length d4] 31)))
      have HA : Hid (Blk ((w.alloc (.cells #[.slice A0 n.nodes.length c0, .slice A1 n.pipes.length c1, .slice A2 n.heads.length c2, .slice A3 n.wells.length c3] 26)).alloc (.cells #[.slice B0 x.cond.length d0, .slice B1 x.heads.length d1, .slice B2 x.flows.length d2, .int .i64 x.node, .int .i64 x.pipe, .int .i64 x.a, .int .i64 x.b, str x.first, str x.second, .slice B3 x.wells.length d3, .slice B4 x.limits.length d4] 31)) (w.heap.size + 1) 31 #[.slice B0 x.cond.length d0, .slice B1 x.heads.length d1, .slice B2 x.flows.length d2, .int .i64 x.node, .int .i64 x.pipe, .int .i64 x.a, .int .i64 x.b, str x.first, str x.second, .slice B3 x.wells.length d3, .slice B4 x.limits.length d4]) := hide (by
        have h := Blk.new (w.alloc (.cells #[.slice A0 n.nodes.length c0, .slice A1 n.pipes.length c1, .slice A2 n.heads.length c2, .slice A3 n.wells.length c3] 26)) 31 #[.slice B0 x.cond.length d0, .slice B1 x.heads.length d1, .slice B2 x.flows.length d2, .int .i64 x.node, .int .i64 x.pipe, .int .i64 x.a, .int .i64 x.b, str x.first, str x.second, .slice B3 x.wells.length d3, .slice B4 x.limits.length d4]
        simp only [World.size_alloc] at h
        exact h)
      go_enter Tryz.func3, Tryz.ntmps3
      go_wp2_with fail
      refine (hgr _ HW.out).mono ?_
      rintro e WN ⟨rfl, hbB⟩
      try clear q0 q1 q2 q3 q4 q5 q6 q7 q8 q9 q10 qL
      have HA_ := hide (HA.out.below hbB HA.out.lt)
      have HW_ := hide (ext HW.out hbB)
      clear HA HW
      have HA := HA_
      have HW := HW_
      clear HA_ HW_
      clear hbB
      have q0 := HA.out.cell 0
      have q1 := HA.out.cell 1
      have q2 := HA.out.cell 2
      have q3 := HA.out.cell 3
      have q4 := HA.out.cell 4
      have q5 := HA.out.cell 5
      have q6 := HA.out.cell 6
      have q7 := HA.out.cell 7
      have q8 := HA.out.cell 8
      have q9 := HA.out.cell 9
      have q10 := HA.out.cell 10
      have qL := HA.out.lt
      simp at q0 q1 q2 q3 q4 q5 q6 q7 q8 q9 q10
      go_wp2_with fail
      refine (hwi _ HW.out).mono ?_
      rintro e WN ⟨rfl, hbB⟩
      try clear q0 q1 q2 q3 q4 q5 q6 q7 q8 q9 q10 qL
      have HA_ := hide (HA.out.below hbB HA.out.lt)
      have HW_ := hide (ext HW.out hbB)
      clear HA HW
      have HA := HA_
      have HW := HW_
      clear HA_ HW_
      clear hbB
      have q0 := HA.out.cell 0
      have q1 := HA.out.cell 1
      have q2 := HA.out.cell 2
      have q3 := HA.out.cell 3
      have q4 := HA.out.cell 4
      have q5 := HA.out.cell 5
      have q6 := HA.out.cell 6
      have q7 := HA.out.cell 7
      have q8 := HA.out.cell 8
      have q9 := HA.out.cell 9
      have q10 := HA.out.cell 10
      have qL := HA.out.lt
      simp at q0 q1 q2 q3 q4 q5 q6 q7 q8 q9 q10
      go_wp2_with fail
      refine (law_lives _).mono ?_
      rintro e WN ⟨rfl, hbB⟩
      try clear q0 q1 q2 q3 q4 q5 q6 q7 q8 q9 q10 qL
      have HA_ := hide (HA.out.below hbB HA.out.lt)
      have HW_ := hide (ext HW.out hbB)
      clear HA HW
      have HA := HA_
      have HW := HW_
      clear HA_ HW_
      clear hbB
      have q0 := HA.out.cell 0
      have q1 := HA.out.cell 1
      have q2 := HA.out.cell 2
      have q3 := HA.out.cell 3
      have q4 := HA.out.cell 4
      have q5 := HA.out.cell 5
      have q6 := HA.out.cell 6
      have q7 := HA.out.cell 7
      have q8 := HA.out.cell 8
      have q9 := HA.out.cell 9
      have q10 := HA.out.cell 10
      have qL := HA.out.lt
      simp at q0 q1 q2 q3 q4 q5 q6 q7 q8 q9 q10
      go_wp2_with fail
      go_ret
      exact ⟨rfl, HW.out⟩
    | false =>
      rw [hw] at hwi
      have hsz := not_great hg
      obtain ⟨hl0, hl1, hl2, _⟩ := not_wide hw
      have hfz := fun w' (hb : Below w.heap.size w w') => hni.below hb
      obtain ⟨B0, d0, B1, d1, B2, d2, B3, d3, B4, d4, rfl, t0, t1, t2, _⟩ := hx
      have hc0 := t0.small hl0
      have hc1 := t1.small hl1
      clear t0 t1 t2 hl0 hl1 hl2 hn
      obtain ⟨m0, e0⟩ : ∃ m, m = x.cond.length := ⟨_, rfl⟩
      obtain ⟨m1, e1⟩ : ∃ m, m = x.heads.length := ⟨_, rfl⟩
      rw [← e0] at hc0 hwi ⊢
      rw [← e1] at hc1 hwi ⊢
      have HM0 := hide e0
      have HM1 := hide e1
      clear e0 e1
      generalize x.flows.length = m2 at hwi ⊢
      generalize x.node = z3 at hwi ⊢
      generalize x.pipe = z4 at hwi ⊢
      generalize x.a = z5 at hwi ⊢
      generalize x.b = z6 at hwi ⊢
      have hfl : x.first.length ≤ 600 := by have h := (not_wide hw).2.2.2; unfold isLong1 at h; rw [decide_eq_false_iff_not] at h; simp [sumLen] at h; omega
      generalize x.first = s7 at hwi hfl ⊢
      generalize x.second = s8 at hwi ⊢
      generalize x.wells.length = m9 at hwi ⊢
      generalize x.limits.length = m10 at hwi ⊢
      generalize hcs : x.cond = cs at hc0 HM0
      generalize hgs : x.heads = gs at hc1 HM1
      clear hcs hgs hw hg
      have hwh := fun w' (hb : Below w.heap.size w w') A c ds (hd : NodesIs w' (.slice A m0 c) ds) => water_Whole v (.slice A m0 c) n ds z5 z6 w' (hfz w' hb) hd hsz
      have hwc := fun w' (hb : Below w.heap.size w w') => hc0.below hb
      have HSZ := hide hsz
      have HC0 := hide hc0
      have HWH := hide hwh
      have HWC := hide hwc
      obtain ⟨A0, k0, c0, A1, k1, c1, A2, k2, c2, A3, k3, c3, rfl, hn0, hn1, hn2, hn3⟩ := hni
      clear hn0 hn1 hn2 hn3 hc0 hsz hfz hwh hwc hc1 HM1
      have HW := hide (ext (ext_alloc w (.cells #[.slice A0 k0 c0, .slice A1 k1 c1, .slice A2 k2 c2, .slice A3 k3 c3] 26)) (ext_alloc _ (.cells #[.slice B0 m0 d0, .slice B1 m1 d1, .slice B2 m2 d2, .int .i64 z3, .int .i64 z4, .int .i64 z5, .int .i64 z6, str s7, str s8, .slice B3 m9 d3, .slice B4 m10 d4] 31)))
      have HK : Hid (Blk ((w.alloc (.cells #[.slice A0 k0 c0, .slice A1 k1 c1, .slice A2 k2 c2, .slice A3 k3 c3] 26)).alloc (.cells #[.slice B0 m0 d0, .slice B1 m1 d1, .slice B2 m2 d2, .int .i64 z3, .int .i64 z4, .int .i64 z5, .int .i64 z6, str s7, str s8, .slice B3 m9 d3, .slice B4 m10 d4] 31)) w.heap.size 26 #[.slice A0 k0 c0, .slice A1 k1 c1, .slice A2 k2 c2, .slice A3 k3 c3]) := hide ((Blk.new w 26 #[.slice A0 k0 c0, .slice A1 k1 c1, .slice A2 k2 c2, .slice A3 k3 c3]).alloc _)
      have HA : Hid (Blk ((w.alloc (.cells #[.slice A0 k0 c0, .slice A1 k1 c1, .slice A2 k2 c2, .slice A3 k3 c3] 26)).alloc (.cells #[.slice B0 m0 d0, .slice B1 m1 d1, .slice B2 m2 d2, .int .i64 z3, .int .i64 z4, .int .i64 z5, .int .i64 z6, str s7, str s8, .slice B3 m9 d3, .slice B4 m10 d4] 31)) (w.heap.size + 1) 31 #[.slice B0 m0 d0, .slice B1 m1 d1, .slice B2 m2 d2, .int .i64 z3, .int .i64 z4, .int .i64 z5, .int .i64 z6, str s7, str s8, .slice B3 m9 d3, .slice B4 m10 d4]) := hide (by
        have h := Blk.new (w.alloc (.cells #[.slice A0 k0 c0, .slice A1 k1 c1, .slice A2 k2 c2, .slice A3 k3 c3] 26)) 31 #[.slice B0 m0 d0, .slice B1 m1 d1, .slice B2 m2 d2, .int .i64 z3, .int .i64 z4, .int .i64 z5, .int .i64 z6, str s7, str s8, .slice B3 m9 d3, .slice B4 m10 d4]
        simp only [World.size_alloc] at h
        exact h)
      have hat := fun w' => law_atMost [49] s7 w' (by unfold SmallS; simp) (by unfold SmallS; omega)
      obtain ⟨bt, HBT⟩ : ∃ bt, Hid (atMostB [49] s7 = bt) := ⟨_, hide rfl⟩
      rw [HBT.out] at hat
      by_cases gz1 : z4 < 0
      · clear hat
        go_enter Tryz.func3, Tryz.ntmps3
        go_wp2_with fail
        refine (hgr _ HW.out).mono ?_
        rintro e WN ⟨rfl, hbB⟩
        try clear r0 r1 r2 r3 rL q0 q1 q2 q3 q4 q5 q6 q7 q8 q9 q10 qL
        have HK_ := hide (HK.out.below hbB HK.out.lt)
        have HA_ := hide (HA.out.below hbB HA.out.lt)
        have HW_ := hide (ext HW.out hbB)
        clear HK HA HW
        have HK := HK_
        have HA := HA_
        have HW := HW_
        clear HK_ HA_ HW_
        clear hbB
        have r0 := HK.out.cell 0
        have r1 := HK.out.cell 1
        have r2 := HK.out.cell 2
        have r3 := HK.out.cell 3
        have rL := HK.out.lt
        have q0 := HA.out.cell 0
        have q1 := HA.out.cell 1
        have q2 := HA.out.cell 2
        have q3 := HA.out.cell 3
        have q4 := HA.out.cell 4
        have q5 := HA.out.cell 5
        have q6 := HA.out.cell 6
        have q7 := HA.out.cell 7
        have q8 := HA.out.cell 8
        have q9 := HA.out.cell 9
        have q10 := HA.out.cell 10
        have qL := HA.out.lt
        simp at r0 r1 r2 r3 q0 q1 q2 q3 q4 q5 q6 q7 q8 q9 q10
        go_wp2_with fail
        refine (hwi _ HW.out).mono ?_
        rintro e WN ⟨rfl, hbB⟩
        try clear r0 r1 r2 r3 rL q0 q1 q2 q3 q4 q5 q6 q7 q8 q9 q10 qL
        have HK_ := hide (HK.out.below hbB HK.out.lt)
        have HA_ := hide (HA.out.below hbB HA.out.lt)
        have HW_ := hide (ext HW.out hbB)
        clear HK HA HW
        have HK := HK_
        have HA := HA_
        have HW := HW_
        clear HK_ HA_ HW_
        clear hbB
        have r0 := HK.out.cell 0
        have r1 := HK.out.cell 1
        have r2 := HK.out.cell 2
        have r3 := HK.out.cell 3
        have rL := HK.out.lt
        have q0 := HA.out.cell 0
        have q1 := HA.out.cell 1
        have q2 := HA.out.cell 2
        have q3 := HA.out.cell 3
        have q4 := HA.out.cell 4
        have q5 := HA.out.cell 5
        have q6 := HA.out.cell 6
        have q7 := HA.out.cell 7
        have q8 := HA.out.cell 8
        have q9 := HA.out.cell 9
        have q10 := HA.out.cell 10
        have qL := HA.out.lt
        simp at r0 r1 r2 r3 q0 q1 q2 q3 q4 q5 q6 q7 q8 q9 q10
        go_wp2_with fail
        refine (law_lives _).mono ?_
        rintro e WN ⟨rfl, hbB⟩
        try clear r0 r1 r2 r3 rL q0 q1 q2 q3 q4 q5 q6 q7 q8 q9 q10 qL
        have HK_ := hide (HK.out.below hbB HK.out.lt)
        have HA_ := hide (HA.out.below hbB HA.out.lt)
        have HW_ := hide (ext HW.out hbB)
        clear HK HA HW
        have HK := HK_
        have HA := HA_
        have HW := HW_
        clear HK_ HA_ HW_
        clear hbB
        have r0 := HK.out.cell 0
        have r1 := HK.out.cell 1
        have r2 := HK.out.cell 2
        have r3 := HK.out.cell 3
        have rL := HK.out.lt
        have q0 := HA.out.cell 0
        have q1 := HA.out.cell 1
        have q2 := HA.out.cell 2
        have q3 := HA.out.cell 3
        have q4 := HA.out.cell 4
        have q5 := HA.out.cell 5
        have q6 := HA.out.cell 6
        have q7 := HA.out.cell 7
        have q8 := HA.out.cell 8
        have q9 := HA.out.cell 9
        have q10 := HA.out.cell 10
        have qL := HA.out.lt
        simp at r0 r1 r2 r3 q0 q1 q2 q3 q4 q5 q6 q7 q8 q9 q10
        go_wp2_with fail
        go_ret
        exact ⟨rfl, HW.out⟩
      by_cases gz2 : (m0 : Int) ≤ z4
      · clear hat
        go_enter Tryz.func3, Tryz.ntmps3
        go_wp2_with fail
        refine (hgr _ HW.out).mono ?_
        rintro e WN ⟨rfl, hbB⟩
        try clear r0 r1 r2 r3 rL q0 q1 q2 q3 q4 q5 q6 q7 q8 q9 q10 qL
        have HK_ := hide (HK.out.below hbB HK.out.lt)
        have HA_ := hide (HA.out.below hbB HA.out.lt)
        have HW_ := hide (ext HW.out hbB)
        clear HK HA HW
        have HK := HK_
        have HA := HA_
        have HW := HW_
        clear HK_ HA_ HW_
        clear hbB
        have r0 := HK.out.cell 0
        have r1 := HK.out.cell 1
        have r2 := HK.out.cell 2
        have r3 := HK.out.cell 3
        have rL := HK.out.lt
        have q0 := HA.out.cell 0
        have q1 := HA.out.cell 1
        have q2 := HA.out.cell 2
        have q3 := HA.out.cell 3
        have q4 := HA.out.cell 4
        have q5 := HA.out.cell 5
        have q6 := HA.out.cell 6
        have q7 := HA.out.cell 7
        have q8 := HA.out.cell 8
        have q9 := HA.out.cell 9
        have q10 := HA.out.cell 10
        have qL := HA.out.lt
        simp at r0 r1 r2 r3 q0 q1 q2 q3 q4 q5 q6 q7 q8 q9 q10
        go_wp2_with fail
        refine (hwi _ HW.out).mono ?_
        rintro e WN ⟨rfl, hbB⟩
        try clear r0 r1 r2 r3 rL q0 q1 q2 q3 q4 q5 q6 q7 q8 q9 q10 qL
        have HK_ := hide (HK.out.below hbB HK.out.lt)
        have HA_ := hide (HA.out.below hbB HA.out.lt)
        have HW_ := hide (ext HW.out hbB)
        clear HK HA HW
        have HK := HK_
        have HA := HA_
        have HW := HW_
        clear HK_ HA_ HW_
        clear hbB
        have r0 := HK.out.cell 0
        have r1 := HK.out.cell 1
        have r2 := HK.out.cell 2
        have r3 := HK.out.cell 3
        have rL := HK.out.lt
        have q0 := HA.out.cell 0
        have q1 := HA.out.cell 1
        have q2 := HA.out.cell 2
        have q3 := HA.out.cell 3
        have q4 := HA.out.cell 4
        have q5 := HA.out.cell 5
        have q6 := HA.out.cell 6
        have q7 := HA.out.cell 7
        have q8 := HA.out.cell 8
        have q9 := HA.out.cell 9
        have q10 := HA.out.cell 10
        have qL := HA.out.lt
        simp at r0 r1 r2 r3 q0 q1 q2 q3 q4 q5 q6 q7 q8 q9 q10
        go_wp2_with fail
        refine (law_lives _).mono ?_
        rintro e WN ⟨rfl, hbB⟩
        try clear r0 r1 r2 r3 rL q0 q1 q2 q3 q4 q5 q6 q7 q8 q9 q10 qL
        have HK_ := hide (HK.out.below hbB HK.out.lt)
        have HA_ := hide (HA.out.below hbB HA.out.lt)
        have HW_ := hide (ext HW.out hbB)
        clear HK HA HW
        have HK := HK_
        have HA := HA_
        have HW := HW_
        clear HK_ HA_ HW_
        clear hbB
        have r0 := HK.out.cell 0
        have r1 := HK.out.cell 1
        have r2 := HK.out.cell 2
        have r3 := HK.out.cell 3
        have rL := HK.out.lt
        have q0 := HA.out.cell 0
        have q1 := HA.out.cell 1
        have q2 := HA.out.cell 2
        have q3 := HA.out.cell 3
        have q4 := HA.out.cell 4
        have q5 := HA.out.cell 5
        have q6 := HA.out.cell 6
        have q7 := HA.out.cell 7
        have q8 := HA.out.cell 8
        have q9 := HA.out.cell 9
        have q10 := HA.out.cell 10
        have qL := HA.out.lt
        simp at r0 r1 r2 r3 q0 q1 q2 q3 q4 q5 q6 q7 q8 q9 q10
        go_wp2_with fail
        go_ret
        exact ⟨rfl, HW.out⟩
      cases bt with
      | false =>
        go_enter Tryz.func3, Tryz.ntmps3
        go_wp2_with fail
        refine (hgr _ HW.out).mono ?_
        rintro e WN ⟨rfl, hbB⟩
        try clear r0 r1 r2 r3 rL q0 q1 q2 q3 q4 q5 q6 q7 q8 q9 q10 qL
        have HK_ := hide (HK.out.below hbB HK.out.lt)
        have HA_ := hide (HA.out.below hbB HA.out.lt)
        have HW_ := hide (ext HW.out hbB)
        clear HK HA HW
        have HK := HK_
        have HA := HA_
        have HW := HW_
        clear HK_ HA_ HW_
        clear hbB
        have r0 := HK.out.cell 0
        have r1 := HK.out.cell 1
        have r2 := HK.out.cell 2
        have r3 := HK.out.cell 3
        have rL := HK.out.lt
        have q0 := HA.out.cell 0
        have q1 := HA.out.cell 1
        have q2 := HA.out.cell 2
        have q3 := HA.out.cell 3
        have q4 := HA.out.cell 4
        have q5 := HA.out.cell 5
        have q6 := HA.out.cell 6
        have q7 := HA.out.cell 7
        have q8 := HA.out.cell 8
        have q9 := HA.out.cell 9
        have q10 := HA.out.cell 10
        have qL := HA.out.lt
        simp at r0 r1 r2 r3 q0 q1 q2 q3 q4 q5 q6 q7 q8 q9 q10
        go_wp2_with fail
        refine (hwi _ HW.out).mono ?_
        rintro e WN ⟨rfl, hbB⟩
        try clear r0 r1 r2 r3 rL q0 q1 q2 q3 q4 q5 q6 q7 q8 q9 q10 qL
        have HK_ := hide (HK.out.below hbB HK.out.lt)
        have HA_ := hide (HA.out.below hbB HA.out.lt)
        have HW_ := hide (ext HW.out hbB)
        clear HK HA HW
        have HK := HK_
        have HA := HA_
        have HW := HW_
        clear HK_ HA_ HW_
        clear hbB
        have r0 := HK.out.cell 0
        have r1 := HK.out.cell 1
        have r2 := HK.out.cell 2
        have r3 := HK.out.cell 3
        have rL := HK.out.lt
        have q0 := HA.out.cell 0
        have q1 := HA.out.cell 1
        have q2 := HA.out.cell 2
        have q3 := HA.out.cell 3
        have q4 := HA.out.cell 4
        have q5 := HA.out.cell 5
        have q6 := HA.out.cell 6
        have q7 := HA.out.cell 7
        have q8 := HA.out.cell 8
        have q9 := HA.out.cell 9
        have q10 := HA.out.cell 10
        have qL := HA.out.lt
        simp at r0 r1 r2 r3 q0 q1 q2 q3 q4 q5 q6 q7 q8 q9 q10
        go_wp2_with fail
        refine (hat _).mono ?_
        rintro e WN ⟨rfl, hbB⟩
        try clear r0 r1 r2 r3 rL q0 q1 q2 q3 q4 q5 q6 q7 q8 q9 q10 qL
        have HK_ := hide (HK.out.below hbB HK.out.lt)
        have HA_ := hide (HA.out.below hbB HA.out.lt)
        have HW_ := hide (ext HW.out hbB)
        clear HK HA HW
        have HK := HK_
        have HA := HA_
        have HW := HW_
        clear HK_ HA_ HW_
        clear hbB
        have r0 := HK.out.cell 0
        have r1 := HK.out.cell 1
        have r2 := HK.out.cell 2
        have r3 := HK.out.cell 3
        have rL := HK.out.lt
        have q0 := HA.out.cell 0
        have q1 := HA.out.cell 1
        have q2 := HA.out.cell 2
        have q3 := HA.out.cell 3
        have q4 := HA.out.cell 4
        have q5 := HA.out.cell 5
        have q6 := HA.out.cell 6
        have q7 := HA.out.cell 7
        have q8 := HA.out.cell 8
        have q9 := HA.out.cell 9
        have q10 := HA.out.cell 10
        have qL := HA.out.lt
        simp at r0 r1 r2 r3 q0 q1 q2 q3 q4 q5 q6 q7 q8 q9 q10
        go_wp2_with fail
        refine (law_lives _).mono ?_
        rintro e WN ⟨rfl, hbB⟩
        try clear r0 r1 r2 r3 rL q0 q1 q2 q3 q4 q5 q6 q7 q8 q9 q10 qL
        have HK_ := hide (HK.out.below hbB HK.out.lt)
        have HA_ := hide (HA.out.below hbB HA.out.lt)
        have HW_ := hide (ext HW.out hbB)
        clear HK HA HW
        have HK := HK_
        have HA := HA_
        have HW := HW_
        clear HK_ HA_ HW_
        clear hbB
        have r0 := HK.out.cell 0
        have r1 := HK.out.cell 1
        have r2 := HK.out.cell 2
        have r3 := HK.out.cell 3
        have rL := HK.out.lt
        have q0 := HA.out.cell 0
        have q1 := HA.out.cell 1
        have q2 := HA.out.cell 2
        have q3 := HA.out.cell 3
        have q4 := HA.out.cell 4
        have q5 := HA.out.cell 5
        have q6 := HA.out.cell 6
        have q7 := HA.out.cell 7
        have q8 := HA.out.cell 8
        have q9 := HA.out.cell 9
        have q10 := HA.out.cell 10
        have qL := HA.out.lt
        simp at r0 r1 r2 r3 q0 q1 q2 q3 q4 q5 q6 q7 q8 q9 q10
        go_wp2_with fail
        go_ret
        exact ⟨rfl, HW.out⟩
      | true =>
        obtain ⟨p, hp⟩ : ∃ p : Nat, z4 = (p : Int) := ⟨z4.toNat, by omega⟩
        subst hp
        have hpm : p < m0 := by omega
        obtain ⟨t, ht, ht1⟩ : ∃ t, readFrac s7 = some t ∧ 1 ≤ t := by
          have h := HBT.out
          unfold atMostB at h
          have h1 : readFrac [49] = some 1 := by rw [← frac_one]; exact readFrac_text (Dz.short dz_one (by omega))
          rw [h1] at h
          cases hr : readFrac s7 with
          | none => rw [hr] at h; cases h
          | some t => rw [hr] at h; exact ⟨t, rfl, of_decide_eq_true h⟩
        have hs7 : s7 = fracText t := (readFrac_some.1 ht).1
        have hdt : Dz 600 t := short_text ht hfl (by omega)
        subst hs7
        have HT1 := hide ht1
        have HDT := hide hdt
        clear gz1 HBT ht ht1 hdt hfl
        go_enter Tryz.func3, Tryz.ntmps3
        go_wp2_with fail
        refine (hgr _ HW.out).mono ?_
        rintro e WN ⟨rfl, hbB⟩
        try clear r0 r1 r2 r3 rL q0 q1 q2 q3 q4 q5 q6 q7 q8 q9 q10 qL
        have HK_ := hide (HK.out.below hbB HK.out.lt)
        have HA_ := hide (HA.out.below hbB HA.out.lt)
        have HW_ := hide (ext HW.out hbB)
        clear HK HA HW
        have HK := HK_
        have HA := HA_
        have HW := HW_
        clear HK_ HA_ HW_
        clear hbB
        have r0 := HK.out.cell 0
        have r1 := HK.out.cell 1
        have r2 := HK.out.cell 2
        have r3 := HK.out.cell 3
        have rL := HK.out.lt
        have q0 := HA.out.cell 0
        have q1 := HA.out.cell 1
        have q2 := HA.out.cell 2
        have q3 := HA.out.cell 3
        have q4 := HA.out.cell 4
        have q5 := HA.out.cell 5
        have q6 := HA.out.cell 6
        have q7 := HA.out.cell 7
        have q8 := HA.out.cell 8
        have q9 := HA.out.cell 9
        have q10 := HA.out.cell 10
        have qL := HA.out.lt
        simp at r0 r1 r2 r3 q0 q1 q2 q3 q4 q5 q6 q7 q8 q9 q10
        clear hgr
        go_wp2_with fail
        refine (hwi _ HW.out).mono ?_
        rintro e WN ⟨rfl, hbB⟩
        try clear r0 r1 r2 r3 rL q0 q1 q2 q3 q4 q5 q6 q7 q8 q9 q10 qL
        have HK_ := hide (HK.out.below hbB HK.out.lt)
        have HA_ := hide (HA.out.below hbB HA.out.lt)
        have HW_ := hide (ext HW.out hbB)
        clear HK HA HW
        have HK := HK_
        have HA := HA_
        have HW := HW_
        clear HK_ HA_ HW_
        clear hbB
        have r0 := HK.out.cell 0
        have r1 := HK.out.cell 1
        have r2 := HK.out.cell 2
        have r3 := HK.out.cell 3
        have rL := HK.out.lt
        have q0 := HA.out.cell 0
        have q1 := HA.out.cell 1
        have q2 := HA.out.cell 2
        have q3 := HA.out.cell 3
        have q4 := HA.out.cell 4
        have q5 := HA.out.cell 5
        have q6 := HA.out.cell 6
        have q7 := HA.out.cell 7
        have q8 := HA.out.cell 8
        have q9 := HA.out.cell 9
        have q10 := HA.out.cell 10
        have qL := HA.out.lt
        simp at r0 r1 r2 r3 q0 q1 q2 q3 q4 q5 q6 q7 q8 q9 q10
        clear hwi
        go_wp2_with fail
        refine (hat _).mono ?_
        rintro e WN ⟨rfl, hbB⟩
        try clear r0 r1 r2 r3 rL q0 q1 q2 q3 q4 q5 q6 q7 q8 q9 q10 qL
        have HK_ := hide (HK.out.below hbB HK.out.lt)
        have HA_ := hide (HA.out.below hbB HA.out.lt)
        have HW_ := hide (ext HW.out hbB)
        clear HK HA HW
        have HK := HK_
        have HA := HA_
        have HW := HW_
        clear HK_ HA_ HW_
        clear hbB
        have r0 := HK.out.cell 0
        have r1 := HK.out.cell 1
        have r2 := HK.out.cell 2
        have r3 := HK.out.cell 3
        have rL := HK.out.lt
        have q0 := HA.out.cell 0
        have q1 := HA.out.cell 1
        have q2 := HA.out.cell 2
        have q3 := HA.out.cell 3
        have q4 := HA.out.cell 4
        have q5 := HA.out.cell 5
        have q6 := HA.out.cell 6
        have q7 := HA.out.cell 7
        have q8 := HA.out.cell 8
        have q9 := HA.out.cell 9
        have q10 := HA.out.cell 10
        have qL := HA.out.lt
        simp at r0 r1 r2 r3 q0 q1 q2 q3 q4 q5 q6 q7 q8 q9 q10
        clear hat
        go_wp2_with fail
        have hh := HWH.out _ HW.out _ _ _ (HWC.out _ HW.out)
        obtain ⟨y, HY⟩ : ∃ y, Hid (wholeErr n cs z5 z6 = y) := ⟨_, hide rfl⟩
        rw [HY.out] at hh
        refine hh.mono ?_
        rintro e WH ⟨hbB, ⟨h0, rfl⟩ | ⟨h0, h, hE, hC, rfl⟩⟩
        · have hI : (y != 0) = true := by rw [bne_iff_ne]; exact h0
          clear r0 r1 r2 r3 rL q0 q1 q2 q3 q4 q5 q6 q7 q8 q9 q10 qL hh h0
          have HK_ := hide (HK.out.below hbB HK.out.lt)
          have HA_ := hide (HA.out.below hbB HA.out.lt)
          have HW_ := hide (ext HW.out hbB)
          clear HK HA HW
          have HK := HK_
          have HA := HA_
          have HW := HW_
          clear HK_ HA_ HW_
          clear hbB
          go_wp2_with fail
          refine (law_lives _).mono ?_
          rintro e WN ⟨rfl, hbB⟩
          try clear r0 r1 r2 r3 rL q0 q1 q2 q3 q4 q5 q6 q7 q8 q9 q10 qL
          have HK_ := hide (HK.out.below hbB HK.out.lt)
          have HA_ := hide (HA.out.below hbB HA.out.lt)
          have HW_ := hide (ext HW.out hbB)
          clear HK HA HW
          have HK := HK_
          have HA := HA_
          have HW := HW_
          clear HK_ HA_ HW_
          clear hbB
          have r0 := HK.out.cell 0
          have r1 := HK.out.cell 1
          have r2 := HK.out.cell 2
          have r3 := HK.out.cell 3
          have rL := HK.out.lt
          have q0 := HA.out.cell 0
          have q1 := HA.out.cell 1
          have q2 := HA.out.cell 2
          have q3 := HA.out.cell 3
          have q4 := HA.out.cell 4
          have q5 := HA.out.cell 5
          have q6 := HA.out.cell 6
          have q7 := HA.out.cell 7
          have q8 := HA.out.cell 8
          have q9 := HA.out.cell 9
          have q10 := HA.out.cell 10
          have qL := HA.out.lt
          simp at r0 r1 r2 r3 q0 q1 q2 q3 q4 q5 q6 q7 q8 q9 q10
          go_wp2_with fail
          go_ret
          exact ⟨rfl, HW.out⟩
        · subst h0
          have HEF := hide hE
          have HCO := hide hC
          clear r0 r1 r2 r3 rL q0 q1 q2 q3 q4 q5 q6 q7 q8 q9 q10 qL hh hE hC
          have HK_ := hide (HK.out.below hbB HK.out.lt)
          have HA_ := hide (HA.out.below hbB HA.out.lt)
          have HW_ := hide (ext HW.out hbB)
          clear HK HA HW
          have HK := HK_
          have HA := HA_
          have HW := HW_
          clear HK_ HA_ HW_
          clear hbB
          have r0 := HK.out.cell 0
          have r1 := HK.out.cell 1
          have r2 := HK.out.cell 2
          have r3 := HK.out.cell 3
          have rL := HK.out.lt
          have q0 := HA.out.cell 0
          have q1 := HA.out.cell 1
          have q2 := HA.out.cell 2
          have q3 := HA.out.cell 3
          have q4 := HA.out.cell 4
          have q5 := HA.out.cell 5
          have q6 := HA.out.cell 6
          have q7 := HA.out.cell 7
          have q8 := HA.out.cell 8
          have q9 := HA.out.cell 9
          have q10 := HA.out.cell 10
          have qL := HA.out.lt
          simp at r0 r1 r2 r3 q0 q1 q2 q3 q4 q5 q6 q7 q8 q9 q10
          have hm60 : m0 ≤ 1000 := by obtain ⟨A', c', e, _, _, h6, _⟩ := HC0.out; have := HM0.out; omega
          have hwe : n.err = 0 ∧ condErr n cs = 0 ∧ endErr n z5 z6 = 0 := by
            have h0 := HY.out
            unfold wholeErr at h0
            by_cases h3 : askErr n cs = 0
            · rw [if_neg (by rw [h3]; decide)] at h0
              unfold askErr at h3
              by_cases h4 : n.err = 0
              · rw [if_neg (by rw [h4]; decide)] at h3; exact ⟨h4, h3, h0⟩
              · rw [if_pos h4] at h3; exact absurd h3 h4
            · rw [if_pos h3] at h0; exact absurd h0 h3
          have HWE := hide hwe
          clear hwe
          obtain ⟨i0, hi0, hz0, hz1, hz2⟩ := info_parts infoFrac
          have h1c : ∀ u ∈ cs.map str, u.oneCell' = true := by
            intro u hu
            obtain ⟨x, _, rfl⟩ := List.mem_map.1 hu
            rfl
          have H1C := hide h1c
          clear h1c
          have hra : Reads WH WH.heap.size 1 B0 m0 (cs.map str) := by
            obtain ⟨A', c', e, _, _, _, hr, _⟩ := HWC.out _ HW.out
            injection e with f1 f2 f3
            subst f1
            rw [f2]; exact hr
          go_wp2_with (at_builtin; refine wpList_append_any _ rfl (.const (.slice none 0 0)) (.tmp 56) _ rfl WH.heap.size 28 i0 _ 1 16 Tryz.underlying27 hi0 hz0 hz1 hz2 rfl (by omega) _ 0 [] rfl (World.ownsRow_nil _ _ _ _) _ B0 m0 d0 _ rfl hra H1C.out ?o2 ?o3 ?o4 ?_)
          case o2 => unfold maxLen; omega
          case o3 => omega
          case o4 => exact Nat.le_refl _
          intro v3 w3 hown3 hgr3 hat3
          try rw [Nat.zero_add, List.nil_append] at hown3
          have hb3 : Below WH.heap.size WH w3 := (ext_refl _).grown hgr3 (Nat.le_refl _) (by intro k hk; simp [Value.ownBlock] at hk)
          have hqL := qL
          clear r0 r1 r2 r3 rL q0 q1 q2 q3 q4 q5 q6 q7 q8 q9 q10 qL hra
          have HK_ := hide (HK.out.below hb3 HK.out.lt)
          have HA_ := hide (HA.out.below hb3 HA.out.lt)
          have HW_ := hide (ext HW.out hb3)
          clear HK HA HW
          have HK := HK_
          have HA := HA_
          have HW := HW_
          clear HK_ HA_ HW_
          have r0 := HK.out.cell 0
          have r1 := HK.out.cell 1
          have r2 := HK.out.cell 2
          have r3 := HK.out.cell 3
          have rL := HK.out.lt
          have q0 := HA.out.cell 0
          have q1 := HA.out.cell 1
          have q2 := HA.out.cell 2
          have q3 := HA.out.cell 3
          have q4 := HA.out.cell 4
          have q5 := HA.out.cell 5
          have q6 := HA.out.cell 6
          have q7 := HA.out.cell 7
          have q8 := HA.out.cell 8
          have q9 := HA.out.cell 9
          have q10 := HA.out.cell 10
          have qL := HA.out.lt
          simp at r0 r1 r2 r3 q0 q1 q2 q3 q4 q5 q6 q7 q8 q9 q10
          obtain ⟨g1, cg1, rest1, rfl, hg1, _, hI1, hcg1, hcg2⟩ := own_texts hown3 (by omega)
          have HI1 := hide hI1
          have HCG1 := hide (And.intro hcg1 hcg2)
          have hgw1 : w.heap.size + 1 < g1 := by omega
          have HGW1 := hide hgw1
          clear hqL
          have HG13 := hide hI1.lt
          clear hown3 hgr3 hat3 hb3 hI1 hcg1 hcg2 hg1 hgw1
          have hra : Reads w3 w3.heap.size 1 B0 m0 (cs.map str) := by
            obtain ⟨A', c', e, _, _, _, hr, _⟩ := HWC.out _ HW.out
            injection e with f1 f2 f3
            subst f1
            rw [f2]; exact hr
          go_wp2_with (at_builtin; refine wpList_append_any _ rfl (.const (.slice none 0 0)) (.tmp 59) _ rfl w3.heap.size 28 i0 _ 1 16 Tryz.underlying27 hi0 hz0 hz1 hz2 rfl (by omega) _ 0 [] rfl (World.ownsRow_nil _ _ _ _) _ B0 m0 d0 _ rfl hra H1C.out ?o2 ?o3 ?o4 ?_)
          case o2 => unfold maxLen; omega
          case o3 => omega
          case o4 => exact Nat.le_refl _
          intro v4 w4 hown4 hgr4 hat4
          try rw [Nat.zero_add, List.nil_append] at hown4
          have hb4 : Below w3.heap.size w3 w4 := (ext_refl _).grown hgr4 (Nat.le_refl _) (by intro k hk; simp [Value.ownBlock] at hk)
          clear r0 r1 r2 r3 rL q0 q1 q2 q3 q4 q5 q6 q7 q8 q9 q10 qL hra
          obtain ⟨g2, cg2, rest2, rfl, hg2, _, hI2, hcg1, hcg2⟩ := own_texts hown4 (by omega)
          have HI2 : Hid (TxtIs w4 g2 (mixT cs t 0) rest2) := hide (by rw [mixT_zero]; exact hI2)
          have HCG2 := hide (And.intro hcg1 hcg2)
          have HG2 := hide hg2
          have HB4 := hide hb4
          clear hown4 hgr4 hat4 hb4 hI2 hcg1 hcg2 hg2 hi0 hz0 hz1 hz2
          have HCD := hide (cond_get HWE.out.2.1)
          go_wp2_with fail
          go_loopw [9] (MixR cs t g2 rest2 w3) (fun iv _ => m0 - (intOf iv).toNat)
          case atStart => exact ⟨0, Nat.zero_le _, rfl, HI2, HB4⟩
          case round =>
            obtain ⟨i, hi, rfl, HI2, HB4⟩ := hrel
            have HK_ := hide (HK.out.below HB4.out HK.out.lt)
            have HA_ := hide (HA.out.below HB4.out HA.out.lt)
            have HW_ := hide (ext HW.out HB4.out)
            have HI1_ := hide (HI1.out.below HB4.out)
            clear HK HA HW HI1
            have HK := HK_
            have HA := HA_
            have HW := HW_
            have HI1 := HI1_
            clear HK_ HA_ HW_ HI1_
            have r0 := HK.out.cell 0
            have r1 := HK.out.cell 1
            have r2 := HK.out.cell 2
            have r3 := HK.out.cell 3
            have rL := HK.out.lt
            have q0 := HA.out.cell 0
            have q1 := HA.out.cell 1
            have q2 := HA.out.cell 2
            have q3 := HA.out.cell 3
            have q4 := HA.out.cell 4
            have q5 := HA.out.cell 5
            have q6 := HA.out.cell 6
            have q7 := HA.out.cell 7
            have q8 := HA.out.cell 8
            have q9 := HA.out.cell 9
            have q10 := HA.out.cell 10
            have qL := HA.out.lt
            simp at r0 r1 r2 r3 q0 q1 q2 q3 q4 q5 q6 q7 q8 q9 q10
            by_cases hil : i < m0
            · have hin : i < cs.length := by have := HM0.out; omega
              have hii : (i : Int) < (m0 : Int) := by omega
              have hml : i < (mixT cs t i).length := by rw [mixT_length]; exact hin
              have c2 := HI2.out.cell hml
              rw [mixT_get, if_neg (by omega)] at c2
              have l2 := HI2.out.lt
              have hge : cs.getD i [] = cs[i] := by simp [List.getD, List.getElem?_eq_getElem hin]
              rw [hge, (HCD.out.2 i hin).1] at c2
              have hcc : numOf (cs.getD i []) = condOf cs i := rfl
              have hcs : Short 50000 (condOf cs i) := Dz.short (Short.sz (HCD.out.2 i hin).2.1) (show 12 < 50000 by omega)
              have hct : Short 50000 (condOf cs i * t) := Dz.short (Dz.mul (Short.sz (HCD.out.2 i hin).2.1) HDT.out (Nat.le_refl _)) (by omega)
              have hmu := fun w' => ex_mul w' hcs (Dz.short HDT.out (by omega)) hct
              rw [hcc] at c2
              clear hge hcc hcs hct hml
              go_wp2_with fail
              have c2g := grown_cell l2 c2
              have q7g := grown_cell qL q7
              refine wp_region_grown_float 11 12 12 (by kernel_rfl) rfl rfl rfl (by kernel_rfl) (by kernel_rfl) ?_ ?_ ?_
              · intro _ _ _ _ _ h9; exact h9
              · intro _ _ _ _ h9; exact h9
              simp only [augL, augO, List.take_succ_cons, List.take_zero, List.drop_succ_cons, List.drop_zero]
              repeat (quiet_step (first | (go_at_call 13; exact call_grown (hmu _))))
              refine wpQuiet_nil ?_
              rintro w9 ⟨t9, rfl⟩
              clear c2g q7g
              have hbB := grown_below wr t9
              try clear r0 r1 r2 r3 rL q0 q1 q2 q3 q4 q5 q6 q7 q8 q9 q10 qL
              have HK_ := hide (HK.out.below hbB HK.out.lt)
              have HA_ := hide (HA.out.below hbB HA.out.lt)
              have HW_ := hide (ext HW.out hbB)
              have HI1_ := hide (HI1.out.below hbB)
              have HI2_ := hide (HI2.out.below hbB)
              have HB4_ := hide (ext HB4.out hbB)
              clear HK HA HW HI1 HI2 HB4
              have HK := HK_
              have HA := HA_
              have HW := HW_
              have HI1 := HI1_
              have HI2 := HI2_
              have HB4 := HB4_
              clear HK_ HA_ HW_ HI1_ HI2_ HB4_
              generalize grown wr t9 = WN at hbB HK HA HW HI1 HI2 HB4 ⊢
              clear t9
              have r0 := HK.out.cell 0
              have r1 := HK.out.cell 1
              have r2 := HK.out.cell 2
              have r3 := HK.out.cell 3
              have rL := HK.out.lt
              have q0 := HA.out.cell 0
              have q1 := HA.out.cell 1
              have q2 := HA.out.cell 2
              have q3 := HA.out.cell 3
              have q4 := HA.out.cell 4
              have q5 := HA.out.cell 5
              have q6 := HA.out.cell 6
              have q7 := HA.out.cell 7
              have q8 := HA.out.cell 8
              have q9 := HA.out.cell 9
              have q10 := HA.out.cell 10
              have qL := HA.out.lt
              simp at r0 r1 r2 r3 q0 q1 q2 q3 q4 q5 q6 q7 q8 q9 q10
              clear c2 l2 hmu hbB
              have hml : i < (mixT cs t i).length := by rw [mixT_length]; exact hin
              have c2 := HI2.out.cell hml
              have f2 := HI2.out.frozen i
              have l2 := HI2.out.lt
              have HI3 := hide (HI2.out.set_ hml (fracText (condOf cs i * t)))
              rw [mixT_set hin] at HI3
              have HB5 := hide (HB4.out.setCell (p := ⟨g2, i, none⟩) HG2.out (str (fracText (condOf cs i * t))))
              go_wp2_with fail
              go_round
              case rel => exact ⟨i + 1, by omega, by go_num, HI3, HB5⟩
              case measure => simp [intOf]; omega
            · obtain rfl : i = m0 := by have := HM0.out; omega
              have hpc : p < cs.length := by have := HM0.out; omega
              have hpi : (p : Int) < (i : Int) := by omega
              have hml : p < (mixT cs t i).length := by rw [mixT_length]; exact hpc
              have hct : Short 50000 (condOf cs p * t) := Dz.short (Dz.mul (Short.sz (HCD.out.2 p hpc).2.1) HDT.out (Nat.le_refl _)) (by omega)
              have HCT := hide hct
              have cc2 := HI2.out.cell hml
              rw [mixT_get, if_pos (by omega)] at cc2
              have l2 := HI2.out.lt
              have c1' := HI1.out.cell hpc
              have f1' := HI1.out.frozen p
              have l1' := HI1.out.lt
              clear hml hct hil hi
              go_wp2_with fail
              go_region
              have hg12 : g2 ≠ g1 := by have := HG2.out; have := HG13.out; omega
              have HI3 : Hid (TxtIs ((wr.setCell ⟨g1, p, none⟩ (.string ⟨(fracText (condOf cs p * t)).toArray⟩)).drew) g1 (cs.set p (fracText (condOf cs p * t))) rest1) := hide (HI1.out.set_ hpc _)
              have HI4 : Hid (TxtIs ((wr.setCell ⟨g1, p, none⟩ (.string ⟨(fracText (condOf cs p * t)).toArray⟩)).drew) g2 (mixT cs t i) rest2) := hide (Blk.far (p := ⟨g1, p, none⟩) HI2.out hg12 _)
              have HK3 : Hid (Blk ((wr.setCell ⟨g1, p, none⟩ (.string ⟨(fracText (condOf cs p * t)).toArray⟩)).drew) w.heap.size 26 #[.slice A0 k0 c0, .slice A1 k1 c1, .slice A2 k2 c2, .slice A3 k3 c3]) := hide (HK.out.far (p := ⟨g1, p, none⟩) (show w.heap.size ≠ g1 by have := HGW1.out; omega) _)
              have HA3 : Hid (Blk ((wr.setCell ⟨g1, p, none⟩ (.string ⟨(fracText (condOf cs p * t)).toArray⟩)).drew) (w.heap.size + 1) 31 #[.slice B0 i d0, .slice B1 m1 d1, .slice B2 m2 d2, .int .i64 z3, .int .i64 (p : Int), .int .i64 z5, .int .i64 z6, str (fracText t), str s8, .slice B3 m9 d3, .slice B4 m10 d4]) := hide (HA.out.far (p := ⟨g1, p, none⟩) (show w.heap.size + 1 ≠ g1 by have := HGW1.out; omega) _)
              have HW3 : Hid (Below w.heap.size w ((wr.setCell ⟨g1, p, none⟩ (.string ⟨(fracText (condOf cs p * t)).toArray⟩)).drew)) := hide (below_drewN (HW.out.setCell (p := ⟨g1, p, none⟩) (show w.heap.size ≤ g1 by have := HGW1.out; omega) _) 1)
              clear c1' f1' l1' cc2 l2 r0 r1 r2 r3 rL q0 q1 q2 q3 q4 q5 q6 q7 q8 q9 q10 qL HK HA HW HI1 HI2 HB4 hg12
              generalize ((wr.setCell ⟨g1, p, none⟩ (.string ⟨(fracText (condOf cs p * t)).toArray⟩)).drew) = WM at HI3 HI4 HK3 HA3 HW3 ⊢
              have HSM : Hid (∀ x ∈ cs, SmallS x) := hide (by obtain ⟨A', c', e, _, _, _, _, hr⟩ := HC0.out; exact hr)
              have HNP := hide (HSZ.out HWE.out.1).2
              have hs1 : ∀ x ∈ cs.set p (fracText (condOf cs p * t)), SmallS x := by
                intro x hx
                rcases List.mem_or_eq_of_mem_set hx with h1 | h1
                · exact HSM.out x h1
                · rw [h1]; exact frac_small HCT.out
              have hnd := HI3.out.nodes (n := i) (by rw [List.length_set]; exact HM0.out) HCG1.out.1 HCG1.out.2 hs1 (by rw [List.length_set]; have := HM0.out; omega)
              have hh := HWH.out _ HW3.out _ _ _ hnd
              obtain ⟨y2, hy2⟩ : ∃ y2, wholeErr n (cs.set p (fracText (condOf cs p * t))) z5 z6 = y2 := ⟨_, rfl⟩
              have htm := fun e W' => told_more (e := e) (w := WM) (w' := W') (cs := cs) HEF.out (fun j hj => by
                rw [cond_set hpc HCT.out]
                by_cases hjp : j = p
                · subst hjp; rw [if_pos rfl]; exact grows_le (HCD.out.2 j hpc).2.2 HT1.out
                · rw [if_neg hjp]; exact Rat.le_refl) hy2 HNP.out
              rw [hy2] at hh
              have HTM := hide htm
              clear htm hy2 hs1 hnd
              have r0 := HK3.out.cell 0
              have r1 := HK3.out.cell 1
              have r2 := HK3.out.cell 2
              have r3 := HK3.out.cell 3
              have rL := HK3.out.lt
              have q0 := HA3.out.cell 0
              have q1 := HA3.out.cell 1
              have q2 := HA3.out.cell 2
              have q3 := HA3.out.cell 3
              have q4 := HA3.out.cell 4
              have q5 := HA3.out.cell 5
              have q6 := HA3.out.cell 6
              have q7 := HA3.out.cell 7
              have q8 := HA3.out.cell 8
              have q9 := HA3.out.cell 9
              have q10 := HA3.out.cell 10
              have qL := HA3.out.lt
              simp at r0 r1 r2 r3 q0 q1 q2 q3 q4 q5 q6 q7 q8 q9 q10
              go_wp2_with fail
              refine hh.mono ?_
              intro e WV hret
              obtain ⟨hbB, s2, rfl, hs2⟩ := HTM.out _ _ hret
              have HS2 := hide hs2
              clear hret hs2 hh HTM HI3 r0 r1 r2 r3 rL q0 q1 q2 q3 q4 q5 q6 q7 q8 q9 q10 qL
              have HK3_ := hide (HK3.out.below hbB HK3.out.lt)
              have HA3_ := hide (HA3.out.below hbB HA3.out.lt)
              have HW3_ := hide (ext HW3.out hbB)
              have HI4_ := hide (HI4.out.below hbB)
              clear HK3 HA3 HW3 HI4
              have HK3 := HK3_
              have HA3 := HA3_
              have HW3 := HW3_
              have HI4 := HI4_
              clear HK3_ HA3_ HW3_ HI4_
              clear hbB
              have r0 := HK3.out.cell 0
              have r1 := HK3.out.cell 1
              have r2 := HK3.out.cell 2
              have r3 := HK3.out.cell 3
              have rL := HK3.out.lt
              have q0 := HA3.out.cell 0
              have q1 := HA3.out.cell 1
              have q2 := HA3.out.cell 2
              have q3 := HA3.out.cell 3
              have q4 := HA3.out.cell 4
              have q5 := HA3.out.cell 5
              have q6 := HA3.out.cell 6
              have q7 := HA3.out.cell 7
              have q8 := HA3.out.cell 8
              have q9 := HA3.out.cell 9
              have q10 := HA3.out.cell 10
              have qL := HA3.out.lt
              simp at r0 r1 r2 r3 q0 q1 q2 q3 q4 q5 q6 q7 q8 q9 q10
              have hs1 : ∀ x ∈ mixT cs t i, SmallS x := by
                intro x hx
                obtain ⟨j, hj, rfl⟩ := List.mem_iff_getElem.1 hx
                rw [mixT_length] at hj
                rw [mixT_get, if_pos (by have := HM0.out; omega)]
                exact frac_small (Dz.short (Dz.mul (Short.sz (HCD.out.2 j hj).2.1) HDT.out (Nat.le_refl _)) (by omega))
              have hnd := HI4.out.nodes (n := i) (by rw [mixT_length]; exact HM0.out) HCG2.out.1 HCG2.out.2 hs1 (by rw [mixT_length]; have := HM0.out; omega)
              have hh := HWH.out _ HW3.out _ _ _ hnd
              generalize hy3 : wholeErr n (mixT cs t i) z5 z6 = y3 at hh
              have htm := fun e W' => told_all (e := e) (w := WV) (w' := W') (y := y3) (ds := mixT cs t i) (t := t) HEF.out (fun j hj => by
                have hjc : j < cs.length := by have := HCD.out.1; omega
                rw [HM0.out, cond_mix hjc (Dz.short (Dz.mul (Short.sz (HCD.out.2 j hjc).2.1) HDT.out (Nat.le_refl _)) (by omega)), Rat.mul_comm])
              have HTM := hide htm
              clear htm hy3 hs1 hnd
              go_wp2_with fail
              refine hh.mono ?_
              intro e WU hret
              obtain ⟨hbB, s3, rfl, hs3⟩ := HTM.out _ _ hret
              have HS3 := hide hs3
              clear hret hs3 hh HTM r0 r1 r2 r3 rL q0 q1 q2 q3 q4 q5 q6 q7 q8 q9 q10 qL
              have HK3_ := hide (HK3.out.below hbB HK3.out.lt)
              have HA3_ := hide (HA3.out.below hbB HA3.out.lt)
              have HW3_ := hide (ext HW3.out hbB)
              clear HK3 HA3 HW3
              have HK3 := HK3_
              have HA3 := HA3_
              have HW3 := HW3_
              clear HK3_ HA3_ HW3_
              clear hbB HI4
              have r0 := HK3.out.cell 0
              have r1 := HK3.out.cell 1
              have r2 := HK3.out.cell 2
              have r3 := HK3.out.cell 3
              have rL := HK3.out.lt
              have q0 := HA3.out.cell 0
              have q1 := HA3.out.cell 1
              have q2 := HA3.out.cell 2
              have q3 := HA3.out.cell 3
              have q4 := HA3.out.cell 4
              have q5 := HA3.out.cell 5
              have q6 := HA3.out.cell 6
              have q7 := HA3.out.cell 7
              have q8 := HA3.out.cell 8
              have q9 := HA3.out.cell 9
              have q10 := HA3.out.cell 10
              have qL := HA3.out.lt
              simp at r0 r1 r2 r3 q0 q1 q2 q3 q4 q5 q6 q7 q8 q9 q10
              have hdc := whole_short HEF.out HCO.out HWE.out.2.1 HNP.out
              have hsc := Dz.short hdc (show 12735 + 108 + 3 < 50000 by omega)
              have hmu := fun w' => ex_mul w' hsc (Dz.short HDT.out (by omega)) (Dz.short (Dz.mul hdc HDT.out (Nat.le_refl _)) (by omega))
              have HSC := hide hsc
              clear hdc hsc
              generalize condAt n.pipes.length n.pf n.pt (condOf cs) z5.toNat h = C at hmu HSC HS2 HS3 ⊢
              go_wp2_with fail
              refine (hmu _).mono ?_
              rintro e WN ⟨rfl, hbB⟩
              try clear r0 r1 r2 r3 rL q0 q1 q2 q3 q4 q5 q6 q7 q8 q9 q10 qL
              have HK3_ := hide (HK3.out.below hbB HK3.out.lt)
              have HA3_ := hide (HA3.out.below hbB HA3.out.lt)
              have HW3_ := hide (ext HW3.out hbB)
              clear HK3 HA3 HW3
              have HK3 := HK3_
              have HA3 := HA3_
              have HW3 := HW3_
              clear HK3_ HA3_ HW3_
              clear hbB
              have r0 := HK3.out.cell 0
              have r1 := HK3.out.cell 1
              have r2 := HK3.out.cell 2
              have r3 := HK3.out.cell 3
              have rL := HK3.out.lt
              have q0 := HA3.out.cell 0
              have q1 := HA3.out.cell 1
              have q2 := HA3.out.cell 2
              have q3 := HA3.out.cell 3
              have q4 := HA3.out.cell 4
              have q5 := HA3.out.cell 5
              have q6 := HA3.out.cell 6
              have q7 := HA3.out.cell 7
              have q8 := HA3.out.cell 8
              have q9 := HA3.out.cell 9
              have q10 := HA3.out.cell 10
              have qL := HA3.out.lt
              simp at r0 r1 r2 r3 q0 q1 q2 q3 q4 q5 q6 q7 q8 q9 q10
              clear hmu
              go_upto_region 18 with fail
              go_cut [125] from 118 (fun s wc => s = .bool false ∧ Hid (Below WN.heap.size WN wc))
              case first =>
                clear r0 r1 r2 r3 rL q0 q1 q2 q3 q4 q5 q6 q7 q8 q9 q10 qL
                by_cases hz : y2 = 0
                · obtain ⟨q, rfl, hq, hle⟩ := HS2.out hz
                  subst hz
                  have hat := fun w' => law_atMost (fracText C) (fracText q) w' (frac_small HSC.out) (frac_small hq)
                  rw [atMostB_yes (readFrac_text HSC.out) (readFrac_text hq), decide_eq_true hle] at hat
                  clear hq hle HS2
                  have HNN := hide (ext_refl WN)
                  go_wp2_with fail
                  refine (hat _).mono ?_
                  rintro e WB ⟨rfl, hbB⟩
                  have HNN2 := hide hbB
                  clear hat hbB
                  go_wp2_with fail
                  go_meet
                  exact ⟨rfl, HNN2⟩
                · have hI : (y2 == 0) = false := by rw [beq_eq_false_iff_ne]; exact hz
                  clear hz HS2
                  go_wp2_with fail
                  go_meet
                  exact ⟨rfl, hide (ext_refl WN)⟩
              case rest =>
                obtain ⟨rfl, HWC2⟩ := hcut
                clear r0 r1 r2 r3 rL q0 q1 q2 q3 q4 q5 q6 q7 q8 q9 q10 qL HS2
                have HW3_ := hide (ext HW3.out HWC2.out)
                clear HW3
                have HW3 := HW3_
                clear HW3_
                by_cases hz : y3 = 0
                · have hs3 := HS3.out hz
                  subst hz
                  subst hs3
                  generalize fracText (C * t) = x9
                  have hxx : (x9 == x9) = true := by simp
                  clear HS3
                  go_wp2_with fail
                  refine (law_lives _).mono ?_
                  rintro e WN ⟨rfl, hbB⟩
                  have HW3_ := hide (ext HW3.out hbB)
                  clear HW3
                  have HW3 := HW3_
                  clear HW3_
                  clear hbB
                  go_wp2_with fail
                  go_ret
                  exact ⟨rfl, HW3.out⟩
                · have hI : (y3 != 0) = true := by rw [bne_iff_ne]; exact hz
                  clear hz HS3
                  go_wp2_with fail
                  refine (law_lives _).mono ?_
                  rintro e WN ⟨rfl, hbB⟩
                  have HW3_ := hide (ext HW3.out hbB)
                  clear HW3
                  have HW3 := HW3_
                  clear HW3_
                  clear hbB
                  go_wp2_with fail
                  go_ret
                  exact ⟨rfl, HW3.out⟩
end Go.Proofs.YtdecgcdkaaiglaaGreat
