/- Parts of the proof: memory, numbers, walks of the functions that are called. -/
import Derived.Test.YtdecgcdkaaiglaaGreatMg27
import Derived.Test.YtdecgcdkaaiglaaGreatMg30
set_option linter.unusedVariables false
set_option linter.unusedSimpArgs false
set_option maxRecDepth 100000
set_option maxHeartbeats 32000000
namespace Go.Proofs.YtdecgcdkaaiglaaGreat
open Go.RowKit Go.Deep
attribute [local go_sem ↓] Go.wp_at_zero Go.wp_at_succ
def RcnR (cs : List (List UInt8)) (w : World) (csN : Array Value) (ov iv : Value) (wr : World) : Prop :=
 ∃ i : Nat, i <= cs.length /\ iv = .int .i64 i /\ Hid (∀ j, j < i -> yB (cs.getD j []) = 0) /\ Hid (Z9 wr (w.heap.size + 1) ov i (yl cs)) /\ Hid (Blk wr w.heap.size 26 csN) /\ Hid (Below w.heap.size w wr)
def zdz (n : Net) (cs : List (List UInt8)) (w : World) (e : Ending) (w' : World) : Prop :=
 Below w.heap.size w w' /\ ((yV n cs ≠ 0 /\ e = .returned (.tuple #[.slice none 0 0, .int .i64 (yV n cs)])) \/ (yV n cs = 0 /\ ∃ v, e = .returned (.tuple #[v, .int .i64 0]) /\ Zv w' v n.pipes.length (yl cs)))
theorem zf1 (vn vc : Value) (n : Net) (cs : List (List UInt8)) (w : World) (hn : Zq w vn n) (hc : yJ w vc cs) :
 Calls Tryz.prog 45 #[vn, vc] w (zdz n cs w) := by
 have HCN := ze hc
 obtain ⟨A0, k0, c0, A1, k1, c1, A2, k2, c2, A3, k3, c3, rfl, hn0, hn1, hn2, hn3⟩ := hn
 have hk1 : k1 = n.pipes.length := by obtain ⟨A', c', e, _⟩ := hn1; injection e
 obtain ⟨Ac, cc, rfl, hcc, hcm, h1000, hcr, hsm⟩ := hc
 have HSM := ze hsm
 have HK1 := ze hk1
 obtain ⟨x, HX⟩ : ∃ x, Hid (yV n cs = x) := ⟨_, ze rfl⟩
 have hx := zg w (.cells #[.slice A0 k0 c0, .slice A1 k1 c1, .slice A2 k2 c2, .slice A3 k3 c3] 26)
 have HK := ze (Blk.new w 26 #[.slice A0 k0 c0, .slice A1 k1 c1, .slice A2 k2 c2, .slice A3 k3 c3])
 have HW := ze hx
 unfold zdz
 rw [HX.out, <- hk1]
 clear hx hn0 hn1 hn2 hn3 hcc hcm hcr hsm hk1
 by_cases hl : cs.length = k1
 . have hd : ((cs.length : Int) != (k1 : Int)) = false := by rw [bne_eq_false_iff_eq]; omega
   have HF : Hid (zM cs.length (fun i => yB (cs.getD i [])) = x) := by
    have h := HX.out; unfold yV at h; rw [if_neg (by have := HK1.out; omega)] at h; exact h
   have HL := ze hl; clear hl
   go_enter Tryz.func45, Tryz.ntmps45
   go_wp2_with fail
   go_loopw [6, 7] (RcnR cs w #[.slice A0 k0 c0, .slice A1 k1 c1, .slice A2 k2 c2, .slice A3 k3 c3]) (fun _ iv _ => cs.length - (intOf iv).toNat)
   case atStart => exact ⟨0, Nat.zero_le _, rfl, fun j h => by omega, Z9.nil _ _ _, HK, HW⟩
   case round =>
    clear HK HW; obtain ⟨i, hi, rfl, HD, HO, HK, HW⟩ := hrel
    by_cases hil : i < cs.length
    . have hii : (i : Int) < (cs.length : Int) := by omega
      obtain ⟨ac, e2, lc, qc⟩ := zkq (HCN.out.below HW.out) hil; subst e2; have hci : zO cs[i] := HSM.out _ (List.getElem_mem hil); have hge : cs.getD i [] = cs[i] := by simp [List.getD, List.getElem?_eq_getElem hil]
      have h1 := fun w => ZL ⟨(cs[i]).toArray⟩ w (yO hci)
      rw [yn] at h1; have HAE : Hid (yB (cs.getD i []) = if zP cs[i] ≠ 0 then zP cs[i] else if vP cs[i] <= 0 then 1 else 0) := by rw [hge]; rfl
      have HCO : Hid (yl cs i = vP cs[i]) := by show _ = _; unfold yl; rw [hge]
      go_wp2_with fail; refine (h1 _).mono ?_; rintro e w1 ⟨rfl, hb1⟩; have HO1 := ze (HO.out.below hb1); have HK1' := ze (HK.out.below hb1 HK.out.lt); have HW1 := ze (ext HW.out hb1); have lc1 := Nat.lt_of_lt_of_le lc hb1.size; have qc1 := XW hb1 lc qc; clear HO HK HW hb1 h1 lc qc
      by_cases h0 : zP cs[i] = 0
      . obtain ⟨q, hq1, hq2, hq3, hq4⟩ := vz h0
        have hm : ∀ w, Calls Tryz.prog 67 #[str cs[i]] w (Yq w q) := fun w => zb6 ⟨(cs[i]).toArray⟩ q w (yO hci) (by rw [yn]; exact hq1)
        have HAE2 : Hid (yB (cs.getD i []) = if q <= 0 then 1 else 0) := by
         have h := HAE.out; rw [if_neg (by rw [h0]; decide), hq3] at h; exact h
        have HCO2 := ze (HCO.out.trans hq3); rw [h0]; clear hq1 hq2 hq3 hq4 HAE HCO h0 hge hci; go_wp2_with fail; refine (hm _).mono ?_; rintro e w2 ⟨v, rfl, hv, hb2⟩; have HO2 := ze (HO1.out.below hb2); have HK2 := ze (HK1'.out.below hb2 HK1'.out.lt); have HW2 := ze (ext HW1.out hb2); have lc2 := Nat.lt_of_lt_of_le lc1 hb2.size; have qc2 := XW hb2 lc1 qc1; clear HO1 HK1' HW1 lc1 qc1 hb2; have hs := XT v q w2 hv
        rcases sgn3 q with ⟨hs0, hz⟩ | ⟨hs0, hz⟩ | ⟨hs0, hz⟩
        rotate_right
        . rw [hz] at hs
          have HZ0 : Hid (yB (cs.getD i []) = 0) := ze (by have := HAE2.out; rw [if_neg hs0] at this; exact this); clear hz hs0 HAE2; go_wp2_with fail; refine hs.mono ?_; rintro e w3 ⟨rfl, hb3⟩; have HO3 := ze (HO2.out.below hb3); have HK3 := ze (HK2.out.below hb3 HK2.out.lt); have HW3 := ze (ext HW2.out hb3); have qc3 := XW hb3 lc2 qc2; clear HO2 HK2 HW2 lc2 qc2 hb3 hs hv; go_wp2_with fail; refine (hm _).mono ?_; rintro e w4 ⟨v4, rfl, hv4, hb4⟩; obtain ⟨ng, X, n1, c8, Y, n2, c9, rfl, hv0⟩ := hv4; have hv1 : xu w4 (.agg #[.bool ng, .slice X n1 c8, .slice Y n2 c9]) q := ⟨ng, X, n1, c8, Y, n2, c9, rfl, hv0⟩; have hx := zg w4 (.cells #[.bool ng, .slice X n1 c8, .slice Y n2 c9] 80); have HV := ze (hv1.below hx); have HO4 := ze (HO3.out.below (ext hb4 hx)); have HK4 := ze (HK3.out.below (ext hb4 hx) HK3.out.lt); have HW4 := ze (ext HW3.out (ext hb4 hx)); have HN4 := ze (Blk.new w4 80 #[.bool ng, .slice X n1 c8, .slice Y n2 c9]); have HB4 : Hid (w.heap.size + 1 <= (w4.alloc (.cells #[.bool ng, .slice X n1 c8, .slice Y n2 c9] 80)).heap.size) := HK4.out.lt; clear HO3 HK3 HW3 qc3 hv0 hv1 hb4 hx hm
          go_wp2_with (at_builtin; go_loud (refine Z1 rfl (.tmp 36) (.tmp 42) rfl (w.heap.size + 1) _ i (yl cs) (yl cs) rfl HO4.out w4.heap.size 1 rfl HN4.out HV.out (by omega) HB4.out (fun _ _ => rfl) HCO2.out ?_)); intro v5 w5 hO5 hc5 hg5; have HO5 := ze hO5; have HK5 := ze (hc5.blk HK4.out (fun e => by have := (hg5 _ e).1; omega)); have HW5 := ze (HW4.out.trans (hc5.below HW4.out.size (fun b e => by have := (hg5 b e).1; omega))); clear hO5 hc5 hg5 HO4 HK4 HW4 HN4 HB4 HV; go_wp2_with fail; go_roundw
          case rel =>
           refine ⟨i + 1, by omega, by go_num, fun j hj => ?_, HO5, HK5, HW5⟩
           rcases Nat.lt_or_ge j i with h | h
           . exact HD.out j h
           . obtain rfl : j = i := by omega
             exact HZ0.out
          case measure => simp [intOf]; omega
        all_goals
         rw [hz] at hs
         have HFX : Hid (x = 1) := by
          have h1 : yB (cs.getD i []) = 1 := by have := HAE2.out; rw [if_pos hs0] at this; exact this
          have h2 := xx (f := fun i => yB (cs.getD i [])) hil HD.out (by show yB _ ≠ 0; rw [h1]; decide); rw [HF.out] at h2; exact h2.trans h1
         clear hz hs0 HAE2 hm; go_wp2_with fail; refine hs.mono ?_; rintro e w3 ⟨rfl, hb3⟩; have HW3 := ze (ext HW2.out hb3); clear hb3 hs hv qc2 HO2 HK2 HW2; go_wp2_with fail; go_ret2; have h9 := HFX.out; subst h9; exact ⟨HW3.out, .inl ⟨by decide, rfl⟩⟩
      . have hI : (zP cs[i] != 0) = true := by rw [bne_iff_ne]; exact h0
        have HFX : Hid (x = zP cs[i]) := by
         have h1 : yB (cs.getD i []) = zP cs[i] := by have := HAE.out; rw [if_pos h0] at this; exact this
         have h2 := xx (f := fun i => yB (cs.getD i [])) hil HD.out (by show yB _ ≠ 0; rw [h1]; exact h0); rw [HF.out] at h2; exact h2.trans h1
        have H0 := ze h0; clear h0 HAE HCO hge hci qc1; generalize zP cs[i] = ev at hI HFX H0 |-; go_wp2_with fail; go_ret2; have h9 := HFX.out; subst h9; exact ⟨HW1.out, .inl ⟨H0.out, rfl⟩⟩
    . obtain rfl : i = cs.length := by omega
      have HX0 : Hid (x = 0) := ze (by rw [<- HF.out]; exact zJ.2 HD.out); go_wp2_with fail; go_ret2; have h9 := HX0.out; subst h9; exact ⟨HW.out, .inr ⟨rfl, _, rfl, by rw [<- HL.out]; exact HO.out.nums⟩⟩
 . have hd : ((cs.length : Int) != (k1 : Int)) = true := by rw [bne_iff_ne]; omega
   have HX1 : Hid (x = 1) := by
    have h := HX.out; unfold yV at h; rw [if_pos (by have := HK1.out; omega)] at h; exact h.symm
   clear hl
   go_enter Tryz.func45, Tryz.ntmps45
   go_wp2_with fail; go_ret2; have h9 := HX1.out; subst h9; exact ⟨HW.out, .inl ⟨by decide, rfl⟩⟩
theorem Tryz.underlying126 : Tryz.prog.underlying 126 = some (.slice 74) := by kernel_rfl
theorem zsf : (Tryz.prog.info? 74).map (fun i => (i.zero, i.size, i.bytes)) = some (some (.slice none 0 0), 1, 24) := by kernel_rfl
theorem x7.push {w w3 : World} {base L m : Nat} {mv v3 : Value} {g : Nat -> Nat} {T : Nat -> Nat -> Rat} {gl : Nat} {f : Nat -> Rat} (h : x7 base w mv L m g T) (hr : xL w gl L L f) (hb : base <= gl) (hne : ∀ j, j < m -> g j ≠ gl)
 (hown : zi3 w3 base 74 1 v3 (m + 1) (((List.range m).map fun i => hdr L (g i)) ++ [hdr L gl])) (hg : w.grownBy w3 mv.ownBlock) (hT : ∀ j, j < L -> T m j = f j) :
 x7 base w3 v3 L (m + 1) (fun i => if i = m then gl else g i) T := by
 have hc : Chg (fun b => mv.ownBlock = some b) w w3 := ⟨hg.os, hg.tape, hg.output, hg.size, fun k hk hS => hg.block k hk (fun e => hS e.symm)⟩
 have hS : ∀ b, mv.ownBlock = some b -> Y2 w b := h.own.2
 refine ⟨?_, fun i j hi hj e => ?_, fun i hi => ?_⟩
 . have e : (List.range (m + 1)).map (fun i => hdr L (if i = m then gl else g i)) = ((List.range m).map fun i => hdr L (g i)) ++ [hdr L gl] := by
    rw [List.range_succ, List.map_append]
    congr 1
    . apply List.map_congr_left
      intro i hi; rw [if_neg (by have := List.mem_range.1 hi; omega)]
    . simp
   rw [e]; exact hown
 . by_cases i1 : i = m
   . by_cases j1 : j = m
     . omega
     . rw [if_pos i1, if_neg j1] at e; exact absurd e.symm (hne j (by omega))
   . by_cases j1 : j = m
     . rw [if_neg i1, if_pos j1] at e; exact absurd e (hne i (by omega))
     . rw [if_neg i1, if_neg j1] at e; exact h.inj i j (by omega) (by omega) e
 . by_cases i1 : i = m
   . rw [if_pos i1]
     refine ⟨hb, (hr.fewer fun k hk => ⟨hk, ?_⟩).chg hc (zld h.own hr) hS⟩; rw [i1]; exact hT k hk
   . rw [if_neg i1]
     exact ⟨(h.rows i (by omega)).1, (h.rows i (by omega)).2.chg hc (zld h.own (h.rows i (by omega)).2) hS⟩
structure zjf (w0 : World) (csN : Array Value) (L : Nat) (T : Nat -> Nat -> Rat) (mv : Value) (i : Nat) (g : Nat -> Nat) (gl nt : Nat) (f : Nat -> Rat) (wr : World) : Prop where
 mat : x7 (w0.heap.size + 1) wr mv L i g T
 row : xL wr gl L nt f
 base : w0.heap.size + 1 <= gl
 ne : ∀ j, j < i -> g j ≠ gl
 net : Blk wr w0.heap.size 26 csN
 low : Below w0.heap.size w0 wr
section
variable {w0 wr w' : World} {csN : Array Value} {L i gl nt : Nat} {T : Nat -> Nat -> Rat} {mv : Value} {g : Nat -> Nat} {f : Nat -> Rat}
theorem zjf.below (h : zjf w0 csN L T mv i g gl nt f wr) (hb : Below wr.heap.size wr w') : zjf w0 csN L T mv i g gl nt f w' :=
 ⟨h.mat.below hb, h.row.below hb, h.base, h.ne, h.net.below hb h.net.lt, ext h.low hb⟩
theorem zjf.set {k nt' : Nat} {q : Rat} {f' : Nat -> Rat} {ng : Bool} {X Y : Option Addr} {n1 c n2 d : Nat} (h : zjf w0 csN L T mv i g gl nt f wr) (hk : k < L) (hv : xu wr (.agg #[.bool ng, .slice X n1 c, .slice Y n2 d]) q)
 (hf : ∀ j, j < nt' -> (j = k /\ f' j = q) \/ (j ≠ k /\ j < nt /\ f' j = f j)) : zjf w0 csN L T mv i g gl nt' f' (World.refAt wr gl k ng X n1 c Y n2 d) := by
 have hc := Yk (w := wr) (g := gl) (k := k) (ng := ng) (A := X) (n := n1) (c := c) (B := Y) (m := n2) (d := d)
 have hS : ∀ b, b = gl -> Y2 wr b := fun b e => by subst e; exact h.row.noI64
 have hb := h.base
 exact ⟨h.mat.chg hc h.ne (fun b hb2 e => by subst e; exact zld h.mat.own h.row hb2) hS, h.row.set hk hv hf, h.base, h.ne, hc.blk h.net (by omega),
  h.low.trans (hc.below h.low.size fun b e => by omega)⟩
theorem zjf.box {gb : Nat} {t : TypeId} {cs : Array Value} {k : Nat} {ng : Bool} {X Y : Option Addr} {n1 c n2 d : Nat} (h : zjf w0 csN L T mv i g gl nt f wr) (hk : Blk wr gb t cs) (hne : gb ≠ gl) : Blk (World.refAt wr gl k ng X n1 c Y n2 d) gb t cs :=
 (Yk (w := wr) (g := gl)).blk hk hne
end
def SlrI (w0 : World) (csN : Array Value) (N : Nat) (T : Nat -> Nat -> Rat) (mv iv : Value) (wr : World) : Prop :=
 ∃ (i : Nat) (g : Nat -> Nat), i <= N /\ iv = .int .i64 i /\ Hid (x7 (w0.heap.size + 1) wr mv (N + 1) i g T) /\ Hid (Blk wr w0.heap.size 26 csN) /\ Hid (Below w0.heap.size w0 wr)
def SlrK (w0 : World) (csN : Array Value) (N : Nat) (T : Nat -> Nat -> Rat) (mv : Value) (i : Nat) (g : Nat -> Nat) (gl : Nat) (kv : Value) (wr : World) : Prop :=
 ∃ k : Nat, k <= N + 1 /\ kv = .int .i64 k /\ Hid (zjf w0 csN (N + 1) T mv i g gl k (fun _ => 0) wr)
def SlrP (w0 : World) (csN : Array Value) (N np : Nat) (T : Nat -> Nat -> Rat) (mv : Value) (i : Nat) (g : Nat -> Nat) (gl : Nat) (R : Nat -> Nat -> Rat) (kv : Value) (wr : World) : Prop :=
 ∃ k : Nat, k <= np /\ kv = .int .i64 k /\ Hid (zjf w0 csN (N + 1) T mv i g gl (N + 1) (R k) wr)
def SlvK (w0 : World) (N : Nat) (T : Tab) (mv kv : Value) (wr : World) : Prop :=
 ∃ (k : Nat) (A : Tab) (g : Nat -> Nat), k <= N /\ kv = .int .i64 k /\ Hid (X2 N T zvi k A) /\ Hid (x7 (w0.heap.size + 1) wr mv (N + 1) N g A) /\ Hid (Below w0.heap.size w0 wr)
def SlvP (w0 : World) (N gm cap : Nat) (g : Nat -> Nat) (A : Tab) (k p0 : Nat) (pv : Value) (wr : World) : Prop :=
 ∃ p : Nat, k <= p /\ p <= p0 /\ pv = .int .i64 p /\ Hid (x7 (w0.heap.size + 1) wr (.slice (some ⟨gm, 0, none⟩) N cap) (N + 1) N g A) /\ Hid (Below w0.heap.size w0 wr)
def SlvI (w0 : World) (N gm cap : Nat) (g : Nat -> Nat) (k : Nat) (B : Tab) (iv : Value) (wr : World) : Prop :=
 ∃ i : Nat, i <= N /\ iv = .int .i64 i /\ Hid (x7 (w0.heap.size + 1) wr (.slice (some ⟨gm, 0, none⟩) N cap) (N + 1) N g (freed B k i)) /\ Hid (Below w0.heap.size w0 wr)
def zse (w : World) (gb : Nat) (q : Rat) : Prop :=
 ∃ (ng : Bool) (X : Option Addr) (n1 c : Nat) (Y : Option Addr) (n2 d : Nat), Blk w gb 80 #[.bool ng, .slice X n1 c, .slice Y n2 d] /\ xu w (.agg #[.bool ng, .slice X n1 c, .slice Y n2 d]) q
theorem zse.chg {S : Nat -> Prop} {w w' : World} {gb : Nat} {q : Rat} (h : zse w gb q) (hc : Chg S w w') (hg : ¬ S gb) (hS : ∀ b, S b -> Y2 w b) : zse w' gb q := by
 obtain ⟨ng, X, n1, c, Y, n2, d, h1, h2⟩ := h
 exact ⟨ng, X, n1, c, Y, n2, d, hc.blk h1 hg, hc.ref h2 hS⟩
theorem zse.below {w w' : World} {gb : Nat} {q : Rat} (h : zse w gb q) (hb : Below w.heap.size w w') : zse w' gb q := h.chg (S := fun _ => False) (Chg.of_below hb) (fun h => h) (fun _ h => h.elim)
def SlvC (w0 : World) (N gm cap : Nat) (g : Nat -> Nat) (k i gb : Nat) (B : Tab) (cv : Value) (wr : World) : Prop :=
 ∃ c : Nat, k <= c /\ c <= N + 1 /\ cv = .int .i64 c /\ Hid (x7 (w0.heap.size + 1) wr (.slice (some ⟨gm, 0, none⟩) N cap) (N + 1) N g (zgy B k i c)) /\ Hid (zse wr gb (B i k / B k k)) /\ Hid (Below w0.heap.size w0 wr)
def SlvO (w0 : World) (N : Nat) (mv : Value) (g : Nat -> Nat) (A : Tab) (BE : Nat) (ov iv : Value) (wr : World) : Prop :=
 ∃ i : Nat, i <= N /\ iv = .int .i64 i /\ Hid (Z9 wr BE ov i (fun k => A k N / A k k)) /\ Hid (x7 (w0.heap.size + 1) wr mv (N + 1) N g A) /\ Hid (Below w0.heap.size w0 wr) /\ Hid (BE <= wr.heap.size)
def zp8 (n : Net) (c : Nat -> Rat) (fx : Nat -> Option Rat) (wl : Nat -> Rat) (asked : Nat -> Bool) (w : World) (e : Ending) (w' : World) : Prop :=
 ∃ v h, e = .returned v /\ Zv w' v n.nodes.length h /\ vV n.nodes.length n.pipes.length n.pf n.pt c fx wl asked h /\ (∀ k, k < n.nodes.length -> Dz zm0 (h k)) /\ Below w.heap.size w w'
theorem zqd (vn vc vh vl va : Value) (n : Net) (lh ll : List yI) (bs : List Bool) (c : Nat -> Rat) (w : World) (hn : Zq w vn n) (hc : Zv w vc n.pipes.length c) (hh : yh w vh lh) (hl : yh w vl ll) (ha : ZG w va bs)
 (hrh : ∀ v ∈ lh, (zl v.value).isSome = true) (hrl : ∀ v ∈ ll, (zl v.value).isSome = true) (hbs : bs.length = n.nodes.length) (he : n.Ends)
 (hG : xh n.nodes.length n.pipes.length n.pf n.pt c (Net.at_ lh) (fun k => (Net.at_ ll k).getD 0) (fun k => bs.getD k false)) :
 Calls Tryz.prog 59 #[vn, vc, vh, vl, va] w (zp8 n c (Net.at_ lh) (fun k => (Net.at_ ll k).getD 0) (fun k => bs.getD k false) w) := by
 have hlh := fun w' (h : Below w.heap.size w w') (i : Nat) => VP vh lh (i : Int) w' (hh.below h) hrh
 have hll := fun w' (h : Below w.heap.size w w') (i : Nat) => VP vl ll (i : Int) w' (hl.below h) hrl
 have HLH := ze hlh
 have HLL := ze hll
 have HN6 := ze hG.hN
 have HG := ze hG
 have HE := ze he
 obtain ⟨A0, k0, c0, A1, k1, c1, A2, k2, c2, A3, k3, c3, rfl, hn0, hn1, hn2, hn3⟩ := hn
 have hk0 : k0 = n.nodes.length := by obtain ⟨A', c', e, _⟩ := hn0; injection e
 have hk1 : k1 = n.pipes.length := by obtain ⟨A', c', e, _⟩ := hn1; injection e
 obtain ⟨AC, cc, rfl, hcc, hcm, hcr⟩ := hc
 obtain ⟨AB, cb, rfl, hbc, hbm, hbr⟩ := ha
 have HC : Hid (Zv w (.slice AC n.pipes.length cc) n.pipes.length c) := ⟨AC, cc, rfl, hcc, hcm, hcr⟩
 have HB : Hid (ZG w (.slice AB bs.length cb) bs) := ⟨AB, cb, rfl, hbc, hbm, hbr⟩
 have HBS := ze hbs
 have HP := ze hn1
 have h9 := hG.hp
 unfold zp8
 rw [hbs]
 subst hk0
 generalize hPP : n.pipes.length = P at *
 subst hk1
 clear hlh hll hrh hrl he hn0 hn1 hn2 hn3 hh hl hcc hcm hcr hbc hbm hbr hbs hG
 generalize hNN : n.nodes.length = N at *
 have HNN := ze hNN
 have HPP := ze hPP
 clear hNN hPP
 have h6 : N <= 6 := HN6.out
 obtain ⟨T, HT⟩ : ∃ T, Hid (zql n.pf n.pt c (Net.at_ lh) (fun k => (Net.at_ ll k).getD 0) (fun k => bs.getD k false) N k1 = T) := ⟨_, ze rfl⟩
 have hx := zg w (.cells #[.slice A0 N c0, .slice A1 k1 c1, .slice A2 k2 c2, .slice A3 k3 c3] 26)
 have HK := ze (Blk.new w 26 #[.slice A0 N c0, .slice A1 k1 c1, .slice A2 k2 c2, .slice A3 k3 c3])
 have HW := ze hx
 clear hx
 go_enter Tryz.func59, Tryz.ntmps59
 go_wp2_with fail
 go_loopw [12, 13] (SlrI w #[.slice A0 N c0, .slice A1 k1 c1, .slice A2 k2 c2, .slice A3 k3 c3] N T) (fun _ iv _ => N - (intOf iv).toNat)
 case atStart => exact ⟨0, fun _ => 0, Nat.zero_le _, rfl, x7.nil _ _ _ _ _, HK, HW⟩
 case round =>
  clear HK HW
  obtain ⟨i, g, hi, rfl, HM, HK, HW⟩ := hrel
  by_cases hlt : i < N
  . skip
    have hii : (i : Int) < (N : Int) := by omega
    have hmk := fun w => zs6 .i64 (N + 1) (by omega) w
    push_cast at hmk
    go_wp2_with fail; have hx := zg wr (.cells (ZP (N + 1)) 80)
    have HS : Hid (zjf w #[.slice A0 N c0, .slice A1 k1 c1, .slice A2 k2 c2, .slice A3 k3 c3] (N + 1) T u12 i g wr.heap.size 0 (fun _ => 0) (wr.alloc (.cells (ZP (N + 1)) 80))) :=
     ⟨HM.out.below hx, zm9 _ _ _, by have := HK.out.lt; omega, fun j hj e => by have := (HM.out.rows j hj).2.lt; omega, HK.out.below hx HK.out.lt, ext HW.out hx⟩
    clear HM HK HW hx hmk; generalize wr.alloc (.cells (ZP (N + 1)) 80) = W1 at HS |-; generalize wr.heap.size = gl at HS |-
    go_loopw [15] (SlrK w #[.slice A0 N c0, .slice A1 k1 c1, .slice A2 k2 c2, .slice A3 k3 c3] N T u12 i g gl) (fun kv _ => N + 1 - (intOf kv).toNat)
    case atStart => exact ⟨0, Nat.zero_le _, rfl, HS⟩
    case round =>
     clear HS; obtain ⟨k, hk, rfl, HS⟩ := hrel
     by_cases hkl : k <= N
     . have hki : (k : Int) <= (N : Int) := by omega
       go_wp2_with fail; refine (zuz _).mono ?_; rintro e w1 ⟨v, rfl, hv, hb1⟩; have HS1 := ze (HS.out.below hb1); obtain ⟨ng, A, n1, c9, B, m, d, rfl, hv0⟩ := hv; have hv1 : xu w1 (.agg #[.bool ng, .slice A n1 c9, .slice B m d]) 0 := ⟨ng, A, n1, c9, B, m, d, rfl, hv0⟩
       have HS2 := ze (HS1.out.set (k := k) (nt' := k + 1) (f' := fun _ => 0) (by omega) hv1 (fun j hj => by
        by_cases e : j = k
        . exact .inl ⟨e, rfl⟩
        . exact .inr ⟨e, by omega, rfl⟩))
       obtain ⟨u0, u1, u2, s0, s1, s2⟩ := HS1.out.row.slots (show k < N + 1 by omega); have f0 := HS1.out.row.frozen (k * 3); have f1 := HS1.out.row.frozen (k * 3 + 1); have f2 := HS1.out.row.frozen (k * 3 + 2); clear hv0 hv1 HS1 HS hb1; have hkn : (k : Int) < (N : Int) + 1 := by omega
       go_wp2_with fail; go_round
       case rel => exact ⟨k + 1, by omega, by go_num, HS2⟩
       case measure => simp [intOf]; omega
     . obtain rfl : k = N + 1 := by omega
       go_wp2_with fail; refine (HLH.out _ HS.out.low i).mono ?_; rintro e w1 ⟨v, rfl, hv, hb1⟩; obtain ⟨fb, HFB⟩ : ∃ fb, Hid ((lh.find? (fun v => v.node == (i : Int))).isSome = fb) := ⟨_, ze rfl⟩; rw [HFB.out]; obtain ⟨ng, A, n1, c9, B, m, d, rfl, hv0⟩ := hv; have hv1 : xu w1 (.agg #[.bool ng, .slice A n1 c9, .slice B m d]) (xC (Net.at_ lh) i) := ⟨ng, A, n1, c9, B, m, d, rfl, hv0⟩; have hx := zg w1 (.cells #[.bool ng, .slice A n1 c9, .slice B m d] 80); have HV := ze (hv1.below hx); have HKB := ze (Blk.new w1 80 #[.bool ng, .slice A n1 c9, .slice B m d]); have HS1 := ze (HS.out.below (ext hb1 hx)); have hne : w1.heap.size ≠ gl := by have := HS.out.row.lt; have := hb1.size; omega
       have HNE := ze hne; clear HS hv0 hv1 hx hb1 hne; obtain ⟨ab, HAB⟩ : ∃ ab, Hid (bs.getD i false = ab) := ⟨_, ze rfl⟩; have hibs : i < bs.length := by have := HBS.out; omega
       obtain ⟨adB, hbB, ca⟩ : ∃ ad, AB = some ad /\ (w1.alloc (.cells #[.bool ng, .slice A n1 c9, .slice B m d] 80)).cell? (ad.add i) = some (.bool ab) := by
        obtain ⟨A', c', e, _, _, hr⟩ := HB.out.below HS1.out.low; injection e with e1 e2 e3
        subst e1; obtain ⟨ad, u, hA, hb, hu, hcell⟩ := hr.at_ hibs; refine ⟨ad, hA, ?_⟩
        have e : u = .bool ab := by
         have hg : bs[i]? = some ab := by rw [List.getElem?_eq_getElem hibs]; have := HAB.out; rw [List.getD_eq_getElem?_getD, List.getElem?_eq_getElem hibs] at this; simpa using this
         unfold xZ at hu; rw [List.getElem?_map, hg] at hu
         simpa using hu.symm
        rw [<- e]; exact hcell
       subst hbB
       have HFR : Hid (zo (Net.at_ lh) (fun k => bs.getD k false) i = (!fb && ab)) := by
        show zo _ _ i = _
        unfold zo
        have h1 : (Net.at_ lh i).isNone = !fb := by
         rw [<- HFB.out]; unfold Net.at_
         cases lh.find? (fun v => v.node == (i : Int)) <;> rfl
        rw [h1, show (fun k => bs.getD k false) i = ab from HAB.out]
       have HTI : Hid (∀ j, j < N + 1 -> T i j = if zo (Net.at_ lh) (fun k => bs.getD k false) i = true then (if j = N then -((Net.at_ ll i).getD 0) else zV n.pf n.pt c i k1 j) else (if j = N then xC (Net.at_ lh) i else if j = i then 1 else 0)) := by
        intro j hj; rw [<- HT.out, zcr hlt (by omega)]
        rfl
       go_upto_region 12 with fail
       generalize w1.alloc (.cells #[.bool ng, .slice A n1 c9, .slice B m d] 80) = W2 at HV HKB HS1 ca |-; generalize w1.heap.size = gb at HKB HNE |-; obtain ⟨hb, HHB⟩ : ∃ hb, Hid ((fb || !ab) = hb) := ⟨_, ze rfl⟩
       have HFB2 : Hid (zo (Net.at_ lh) (fun k => bs.getD k false) i = !hb) := by
        show _ = _
        rw [HFR.out, <- HHB.out]
        cases fb <;> cases ab <;> rfl
       go_cut [63] from 33 to 136 (fun s wc => s = .bool hb /\ wc = W2)
       case first =>
        have h := HHB.out
        cases fb <;> cases ab <;> simp at h <;> subst h
        all_goals
         go_wp2_with fail; go_meet; exact ⟨rfl, rfl⟩
       obtain ⟨rfl, hwc⟩ := hcut; subst hwc; generalize wc = W2 at HV HKB HS1 |-; clear ca HFR HHB
       go_upto_if 63 with fail
       go_cut [] from 33 to 136 (fun wc => ∃ f, Hid (zjf w #[.slice A0 N c0, .slice A1 k1 c1, .slice A2 k2 c2, .slice A3 k3 c3] (N + 1) T u12 i g gl (N + 1) f wc) /\ Hid (∀ j, j < N + 1 -> T i j = f j))
       case first =>
        cases hb with
        | false =>
           have hfr : zo (Net.at_ lh) (fun k => bs.getD k false) i = true := HFB2.out
           have HF : Hid (∀ j, j < N + 1 -> T i j = if j = N then -((Net.at_ ll i).getD 0) else zV n.pf n.pt c i k1 j) := by
            intro j hj; rw [HTI.out j hj, hfr]
            rfl
           have HS3 : Hid (zjf w #[.slice A0 N c0, .slice A1 k1 c1, .slice A2 k2 c2, .slice A3 k3 c3] (N + 1) T u12 i g gl (N + 1) (zV n.pf n.pt c i 0) W2) := HS1.out; clear HS1 HFB2 HTI hfr HV HKB; go_wp2_with fail
           go_loopw [18] (SlrP w #[.slice A0 N c0, .slice A1 k1 c1, .slice A2 k2 c2, .slice A3 k3 c3] N k1 T u12 i g gl (zV n.pf n.pt c i)) (fun kv _ => k1 - (intOf kv).toNat)
           case atStart => exact ⟨0, Nat.zero_le _, rfl, HS3⟩
           case round =>
            clear HS3; obtain ⟨k, hk, rfl, HS⟩ := hrel; have r1 := HS.out.net.cell 1; simp at r1
            by_cases hkl : k < k1
            . skip
              have hki : (k : Int) < (k1 : Int) := by omega
              have hkP : k < n.pipes.length := by have := HPP.out; omega
              obtain ⟨ad, e1, hb, p0, p1, p2, p3, p4⟩ := (HP.out.below HS.out.low).at_ hkP; subst e1; obtain ⟨hf1, hf2, ht1, ht2⟩ := HE.out k hkP; rw [hf1] at p1; rw [ht1] at p2; rw [HNN.out] at hf2 ht2; have hii0 : i < N := hlt; generalize hPN : n.pipes[k].name = sn at p0; generalize hPL : n.pipes[k].low = sl at p3; generalize hPH : n.pipes[k].high = sh at p4; clear hPN hPL hPH hf1 ht1; have HRN := ze (HG.out.row_nl (i := i) (Nat.le_of_lt hkl) i); have HCN := ze (HG.out.c_nl hkl); have HMN := fun o => ze (HG.out.mid_nl (i := i) hkl o)
              have hne := HG.out.piped.ne k hkl; have hi3 : (i : Int) < (N : Int) + 1 := by omega
              go_upto_region 19 with fail
              have hx := zg wr (.cells #[str sn, .int .i64 (n.pf k : Int), .int .i64 (n.pt k : Int), str sl, str sh] 47); have HSB := ze (HS.out.below hx); have hkp := Blk.new wr 47 #[str sn, .int .i64 (n.pf k : Int), .int .i64 (n.pt k : Int), str sl, str sh]; generalize wr.alloc (.cells #[str sn, .int .i64 (n.pf k : Int), .int .i64 (n.pt k : Int), str sl, str sh] 47) = WB at HSB hkp |-; have q1 := hkp.cell 1; have q2 := hkp.cell 2; simp at q1 q2; clear hx HS hb p0 p1 p2 p3 p4 r1 hkp; generalize wr.heap.size = gp at q1 q2 |-
              go_upto_if 87 with fail
              go_cut [20] from 72 to 121 (fun s wc => wc = WB /\ ∃ ov : Int, s = .int .i64 ov /\ Hid ((ov = -1 /\ zV n.pf n.pt c i (k + 1) = zV n.pf n.pt c i k) \/
               ∃ o : Nat, ov = (o : Int) /\ o < N /\ o ≠ i /\ ∀ j, zV n.pf n.pt c i (k + 1) j = if j = o then Yy n.pf n.pt c i k o - c k else Yy n.pf n.pt c i k j))
              case first =>
               rcases (show n.pf k = i \/ (n.pf k ≠ i /\ n.pt k = i) \/ (n.pf k ≠ i /\ n.pt k ≠ i) by omega) with h1 | ⟨h0, h1⟩ | ⟨h0, h1⟩
               . have hI : (((n.pf k : Nat) : Int) == (i : Int)) = true := by rw [beq_iff_eq]; omega
                 have HR := ze (zoc (c := c) hkl HG.out.piped h1); have HO : Hid (n.pt k < N /\ n.pt k ≠ i) := ⟨ht2, fun e => by omega⟩; clear h1 hne; go_wp2_with fail; go_meet; exact ⟨rfl, _, rfl, .inr ⟨_, rfl, HO.out.1, HO.out.2, HR.out⟩⟩
               . have hI : (((n.pf k : Nat) : Int) == (i : Int)) = false := by rw [beq_eq_false_iff_ne]; omega
                 have hJ : (((n.pt k : Nat) : Int) == (i : Int)) = true := by rw [beq_iff_eq]; omega
                 have HR := ze (zs3 (c := c) hkl HG.out.piped h0 h1); have HO : Hid (n.pf k < N /\ n.pf k ≠ i) := ⟨hf2, fun e => by omega⟩; clear h1 hne h0; go_wp2_with fail; go_meet; exact ⟨rfl, _, rfl, .inr ⟨_, rfl, HO.out.1, HO.out.2, HR.out⟩⟩
               . have hI : (((n.pf k : Nat) : Int) == (i : Int)) = false := by rw [beq_eq_false_iff_ne]; omega
                 have hJ : (((n.pt k : Nat) : Int) == (i : Int)) = false := by rw [beq_eq_false_iff_ne]; omega
                 have HR := ze (zp3 (c := c) h0 h1); clear h1 hne h0; go_wp2_with fail; go_meet; exact ⟨rfl, _, rfl, .inl ⟨rfl, HR.out⟩⟩
              case rest =>
               clear q1 q2 hne hf2 ht2; obtain ⟨rfl, ov, rfl, HOV⟩ := hcut
               rcases HOV.out with ⟨rfl, HR⟩ | ⟨o, rfl, ho, hoi, HR⟩
               . have HS1 := HSB.out
                 rw [<- HR] at HS1; have HS1 := ze HS1; clear HR HOV HSB; go_wp2_with fail; go_round
                 case rel => exact ⟨k + 1, by omega, by go_num, HS1⟩
                 case measure => simp [intOf]; omega
               . have HO : Hid (o < N /\ o ≠ i) := ⟨ho, hoi⟩
                 have HR := ze HR; clear HOV hoi; generalize wc = WB at HSB |-; have ho0 : (0 : Int) <= (o : Int) := by omega
                 have ho1 : (o : Int) < (N : Int) + 1 := by omega
                 go_upto_region 25 with fail
                 obtain ⟨na, Xa, xa, ya, Za, za, ta, a0, a1, a2, hra⟩ := HSB.out.row.2 i (by omega); obtain ⟨gc, eC, lC, nb, Xb, xb, yb, Zb, zb, tb, b0, b1, b2, hrb⟩ := (HC.out.below HSB.out.low).at_ hkl; subst eC; have HRA := ze hra; have HRB := ze hrb; have aL := HSB.out.row.lt; clear hra hrb; refine yq (S := fun w' => Hid (Below WB.heap.size WB w') /\ w'.cell? ⟨gl, i * 3, none⟩ = some (.bool na) /\ w'.cell? ⟨gl, i * 3 + 1, none⟩ = some (.slice Xa xa ya) /\ w'.cell? ⟨gl, i * 3 + 2, none⟩ = some (.slice Za za ta) /\ w'.cell? ⟨gc, k * 3, none⟩ = some (.bool nb) /\ w'.cell? ⟨gc, k * 3 + 1, none⟩ = some (.slice Xb xb yb) /\ w'.cell? ⟨gc, k * 3 + 2, none⟩ = some (.slice Zb zb tb)) 10 1 11 rfl (by kernel_rfl) (by kernel_rfl) (by kernel_rfl) rfl (zU (zK WB) (fun hB => ⟨zr hB aL a0, zr hB aL a1, zr hB aL a2, zr hB lC b0, zr hB lC b1, zr hB lC b2⟩)) ?_ (fun hHeld => ?_)
                 . intro _ _ _ _ _ h9; exact h9
                 simp only [List.take_succ_cons, List.take_zero]
                 iterate 10 (refine vq (v := ?_) ?_ ?_; rotate_left; (focus (as_aux_lemma => (intro w9 hSw; (try dsimp only at hSw); go_split_ands; go_simp; try with_reducible rfl))); try simp only [Act.put, List.setIfInBounds_toArray, List.set_cons_zero, List.set_cons_succ])
                 refine vZ ?_; refine HH.ready (rs := [10]) (by kernel_rfl) (by simp) (by kernel_rfl) ?_; refine xP.cons (o := _) rfl (fun K hK => ?_) xP.nil
                 go_simp
                 go_at_call 62; refine (XF _ _ _ _ _ (HRA.out.below (zK WB).out) (HRB.out.below (zK WB).out) HRN.out HCN.out).mono ?_; rintro e w1 ⟨v, rfl, hv, hb1⟩; have HV := ze hv; clear hv; have hH0 := hHeld; clear hHeld; refine hK.out _ _ (zU (z7 hb1 hH0.1) (fun hB => ⟨zr hB aL a0, zr hB aL a1, zr hB aL a2, zr hB lC b0, zr hB lC b1, zr hB lC b2⟩)) (fun hHeld => ?_); clear hH0 hK K
                 try simp only [Act.put, List.setIfInBounds_toArray, List.set_cons_zero, List.set_cons_succ]
                 have HBY := (hHeld.1).out; replace HSB := ze (zjf.below HSB.out HBY); clear HBY hHeld; refine HH.done (by kernel_rfl) ?_; simp only [List.drop_succ_cons, List.drop_zero]; clear HRA HRB a0 a1 a2 b0 b1 b2 aL lC; obtain ⟨ng, X, n2, c8, Y, m2, d2, rfl, hv0⟩ := HV.out
                 have HS2 := ze (HSB.out.set (k := i) (nt' := N + 1) (f' := Yy n.pf n.pt c i k) (by omega) HV.out (fun j hj => by
                  unfold Yy
                  by_cases e : j = i
                  . exact .inl ⟨e, by rw [if_pos e]⟩
                  . exact .inr ⟨e, hj, by rw [if_neg e]⟩))
                 obtain ⟨u0, u1, u2, s0, s1, s2⟩ := HSB.out.row.slots (show i < N + 1 by omega); have f0 := HSB.out.row.frozen (i * 3); have f1 := HSB.out.row.frozen (i * 3 + 1); have f2 := HSB.out.row.frozen (i * 3 + 2); clear hv0 HSB HV
                 go_upto_region 26 with fail
                 clear s0 s1 s2 f0 f1 f2; obtain ⟨WB, hW9⟩ : ∃ x, x = World.refAt w1 gl i ng X n2 c8 Y m2 d2 := ⟨_, rfl⟩; rw [<- hW9] at HS2; have hW8 : ((w1.setCell ⟨gl, i * 3, none⟩ (.bool ng)).setCell ⟨gl, i * 3 + 1, none⟩ (.slice X n2 c8)).setCell ⟨gl, i * 3 + 2, none⟩ (.slice Y m2 d2) = WB := hW9.symm; rw [hW8]; clear hW8 hW9; obtain ⟨na, Xa, xa, ya, Za, za, ta, a0, a1, a2, hra⟩ := HS2.out.row.2 o (by have := HO.out.1; omega); obtain ⟨gc', eC, lC, nb, Xb, xb, yb, Zb, zb, tb, b0, b1, b2, hrb⟩ := (HC.out.below HS2.out.low).at_ hkl; injection eC with eC
                 injection eC with eC
                 subst eC; have HRA := ze hra; have HRB := ze hrb; have aL := HS2.out.row.lt; have HMO := HMN o; clear hra hrb; refine yq (S := fun w' => Hid (Below WB.heap.size WB w') /\ w'.cell? ⟨gl, o * 3, none⟩ = some (.bool na) /\ w'.cell? ⟨gl, o * 3 + 1, none⟩ = some (.slice Xa xa ya) /\ w'.cell? ⟨gl, o * 3 + 2, none⟩ = some (.slice Za za ta) /\ w'.cell? ⟨gc, k * 3, none⟩ = some (.bool nb) /\ w'.cell? ⟨gc, k * 3 + 1, none⟩ = some (.slice Xb xb yb) /\ w'.cell? ⟨gc, k * 3 + 2, none⟩ = some (.slice Zb zb tb)) 10 1 11 rfl (by kernel_rfl) (by kernel_rfl) (by kernel_rfl) rfl (zU (zK WB) (fun hB => ⟨zr hB aL a0, zr hB aL a1, zr hB aL a2, zr hB lC b0, zr hB lC b1, zr hB lC b2⟩)) ?_ (fun hHeld => ?_)
                 . intro _ _ _ _ _ h9; exact h9
                 simp only [List.take_succ_cons, List.take_zero]
                 iterate 10 (refine vq (v := ?_) ?_ ?_; rotate_left; (focus (as_aux_lemma => (intro w9 hSw; (try dsimp only at hSw); go_split_ands; go_simp; try with_reducible rfl))); try simp only [Act.put, List.setIfInBounds_toArray, List.set_cons_zero, List.set_cons_succ])
                 refine vZ ?_; refine HH.ready (rs := [10]) (by kernel_rfl) (by simp) (by kernel_rfl) ?_; refine xP.cons (o := _) rfl (fun K hK => ?_) xP.nil
                 go_simp
                 go_at_call 49; refine (zft _ _ _ _ _ (HRA.out.below (zK WB).out) (HRB.out.below (zK WB).out) HMO.out HCN.out).mono ?_; rintro e w2 ⟨v, rfl, hv, hb1⟩; have HV := ze hv; clear hv; have hH0 := hHeld; clear hHeld; refine hK.out _ _ (zU (z7 hb1 hH0.1) (fun hB => ⟨zr hB aL a0, zr hB aL a1, zr hB aL a2, zr hB lC b0, zr hB lC b1, zr hB lC b2⟩)) (fun hHeld => ?_); clear hH0 hK K
                 try simp only [Act.put, List.setIfInBounds_toArray, List.set_cons_zero, List.set_cons_succ]
                 have HBY := (hHeld.1).out; replace HS2 := ze (zjf.below HS2.out HBY); clear HBY hHeld; refine HH.done (by kernel_rfl) ?_; simp only [List.drop_succ_cons, List.drop_zero]; clear HRA HRB a0 a1 a2 b0 b1 b2 aL lC HMO; obtain ⟨ng, X, n2, c8, Y, m2, d2, rfl, hv0⟩ := HV.out
                 have HS := ze (HS2.out.set (k := o) (nt' := N + 1) (f' := zV n.pf n.pt c i (k + 1)) (by have := HO.out.1; omega) HV.out (fun j hj => by
                  rw [HR.out]
                  by_cases e : j = o
                  . exact .inl ⟨e, by rw [if_pos e]⟩
                  . exact .inr ⟨e, hj, by rw [if_neg e]⟩))
                 obtain ⟨u0, u1, u2, s0, s1, s2⟩ := HS2.out.row.slots (show o < N + 1 by have := HO.out.1; omega); have f0 := HS2.out.row.frozen (o * 3); have f1 := HS2.out.row.frozen (o * 3 + 1); have f2 := HS2.out.row.frozen (o * 3 + 2); clear hv0 HS2 HV; go_wp2_with fail; go_round
                 case rel => exact ⟨k + 1, by omega, by go_num, HS⟩
                 case measure => simp [intOf]; omega
            . obtain rfl : k = k1 := by omega
              go_wp2_with fail; refine (HLL.out _ HS.out.low i).mono ?_; rintro e w1 ⟨v, rfl, hv, hb1⟩; obtain ⟨wb, HWB⟩ : ∃ wb, Hid ((ll.find? (fun v => v.node == (i : Int))).isSome = wb) := ⟨_, ze rfl⟩; rw [HWB.out]; obtain ⟨ng2, X, n2, c8, Y, m2, d2, rfl, hv0⟩ := hv; have hv1 : xu w1 (.agg #[.bool ng2, .slice X n2 c8, .slice Y m2 d2]) ((Net.at_ ll i).getD 0) := ⟨ng2, X, n2, c8, Y, m2, d2, rfl, hv0⟩; have hx := zg w1 (.cells #[.bool ng2, .slice X n2 c8, .slice Y m2 d2] 80); have HV := ze (hv1.below hx); have HKB := ze (Blk.new w1 80 #[.bool ng2, .slice X n2 c8, .slice Y m2 d2]); have HS1 := ze (HS.out.below (ext hb1 hx)); clear HS hv0 hv1 hx hb1 r1
              go_upto_region 28 with fail
              generalize w1.alloc (.cells #[.bool ng2, .slice X n2 c8, .slice Y m2 d2] 80) = W2 at HV HKB HS1 |-; generalize w1.heap.size = gb at HKB |-; have b0 := HKB.out.cell 0; have b1 := HKB.out.cell 1; have b2 := HKB.out.cell 2; simp at b0 b1 b2; go_wp2_with fail; refine (Vv _ _ _ HV.out).mono ?_; rintro e w2 ⟨v, rfl, hv, hb1⟩; have HS2 := ze (HS1.out.below hb1); clear HS1 b0 b1 b2 HKB HV; obtain ⟨ng, A, n1, c9, B, m, d, rfl, hv0⟩ := hv; have hv1 : xu w2 (.agg #[.bool ng, .slice A n1 c9, .slice B m d]) (-((Net.at_ ll i).getD 0)) := ⟨ng, A, n1, c9, B, m, d, rfl, hv0⟩; obtain ⟨u0, u1, u2, s0, s1, s2⟩ := HS2.out.row.slots (show N < N + 1 by omega); have f0 := HS2.out.row.frozen (N * 3); have f1 := HS2.out.row.frozen (N * 3 + 1); have f2 := HS2.out.row.frozen (N * 3 + 2); have hNn : (N : Int) < (N : Int) + 1 := by omega
              have HS := ze (HS2.out.set (k := N) (nt' := N + 1) (f' := fun j => if j = N then -((Net.at_ ll i).getD 0) else zV n.pf n.pt c i k j) (by omega) hv1 (fun j hj => by
               by_cases e : j = N
               . exact .inl ⟨e, by rw [if_pos e]⟩
               . exact .inr ⟨e, hj, by rw [if_neg e]⟩))
              clear HS2 hv0 hv1 hb1; go_wp2_with fail; go_meet; exact ⟨_, HS, HF⟩
        | true =>
           have hfr : zo (Net.at_ lh) (fun k => bs.getD k false) i = false := HFB2.out
           have HF : Hid (∀ j, j < N + 1 -> T i j = if j = N then xC (Net.at_ lh) i else if j = i then 1 else 0) := by
            intro j hj; rw [HTI.out j hj, hfr]
            rfl
           clear hfr HFB2 HTI; go_wp2_with fail; refine (zuw _).mono ?_; rintro e w3 ⟨v, rfl, hv, hb1⟩; have HS2 := ze (HS1.out.below hb1); have HKB2 := ze (HKB.out.below hb1 HKB.out.lt); have HV2 := ze (HV.out.below hb1); obtain ⟨ng2, X, n2, c8, Y, m2, d2, rfl, hv0⟩ := hv; have hv1 : xu w3 (.agg #[.bool ng2, .slice X n2 c8, .slice Y m2 d2]) 1 := ⟨ng2, X, n2, c8, Y, m2, d2, rfl, hv0⟩
           have HS3 := ze (HS2.out.set (k := i) (nt' := N + 1) (f' := fun j => if j = i then 1 else 0) (by omega) hv1 (fun j hj => by
            by_cases e : j = i
            . exact .inl ⟨e, by rw [if_pos e]⟩
            . exact .inr ⟨e, by omega, by rw [if_neg e]⟩))
           have HKB3 := ze (HS2.out.box (k := i) (ng := ng2) (X := X) (Y := Y) (n1 := n2) (c := c8) (n2 := m2) (d := d2) HKB2.out HNE.out); have HV3 := ze ((Yk (w := w3) (g := gl) (k := i) (ng := ng2) (A := X) (n := n2) (c := c8) (B := Y) (m := m2) (d := d2)).ref HV2.out (fun b e => by subst e; exact HS2.out.row.noI64)); obtain ⟨u0, u1, u2, s0, s1, s2⟩ := HS2.out.row.slots (show i < N + 1 by omega); have f0 := HS2.out.row.frozen (i * 3); have f1 := HS2.out.row.frozen (i * 3 + 1); have f2 := HS2.out.row.frozen (i * 3 + 2); have hin : (i : Int) < (N : Int) + 1 := by omega
           clear hv0 hv1 HS2 HS1 HKB2 HV2 hb1 HKB HV
           go_upto_region 14 with fail
           clear s0 s1 s2 f0 f1 f2; obtain ⟨W4, hW9⟩ : ∃ x, x = World.refAt w3 gl i ng2 X n2 c8 Y m2 d2 := ⟨_, rfl⟩; rw [<- hW9] at HS3; rw [<- hW9] at HKB3; rw [<- hW9] at HV3; have hW8 : ((w3.setCell ⟨gl, i * 3, none⟩ (.bool ng2)).setCell ⟨gl, i * 3 + 1, none⟩ (.slice X n2 c8)).setCell ⟨gl, i * 3 + 2, none⟩ (.slice Y m2 d2) = W4 := hW9.symm; rw [hW8]; clear hW8 hW9; have b0 := HKB3.out.cell 0; have b1 := HKB3.out.cell 1; have b2 := HKB3.out.cell 2; simp at b0 b1 b2; obtain ⟨u0, u1, u2, s0, s1, s2⟩ := HS3.out.row.slots (show N < N + 1 by omega); have f0 := HS3.out.row.frozen (N * 3); have f1 := HS3.out.row.frozen (N * 3 + 1); have f2 := HS3.out.row.frozen (N * 3 + 2); have hNn : (N : Int) < (N : Int) + 1 := by omega
           have HS := ze (HS3.out.set (k := N) (nt' := N + 1) (f' := fun j => if j = N then xC (Net.at_ lh) i else if j = i then 1 else 0) (by omega) HV3.out (fun j hj => by
            by_cases e : j = N
            . exact .inl ⟨e, by rw [if_pos e]⟩
            . exact .inr ⟨e, by omega, by rw [if_neg e]⟩))
           clear HS3 HV3 HKB3; go_wp2_with fail; go_meet; exact ⟨_, HS, HF⟩
       case rest =>
        clear HS1 HKB HV HTI; obtain ⟨f, HS, HF⟩ := hcut; generalize wc = WZ at HS |-; have hone : ∀ u ∈ [hdr (N + 1) gl], u.oneCell' = true := by intro u hu; rw [List.mem_singleton] at hu; subst hu; rfl
        have hnoi : ∀ u ∈ [hdr (N + 1) gl], zhe u := by intro u hu; rw [List.mem_singleton] at hu; subst hu; exact zgw _ _
        have hzn : ∀ u ∈ (Value.slice none 0 0).cells, zhe u := by intro u hu; simp [Value.cells] at hu; subst hu; exact vX _ _ _
        have hsz : w.heap.size + 1 <= WZ.heap.size := by have := HS.out.net.lt; omega
        have hsz2 : w.heap.size <= WZ.heap.size := by omega
        obtain ⟨i0, hi0, hz0, hz1, hz2⟩ := info_parts zsf; have hx := zg WZ (.cells #[.slice (some ⟨gl, 0, none⟩) (N + 1) (N + 1)] 74); have hnew := Blk.new WZ 74 #[.slice (some ⟨gl, 0, none⟩) (N + 1) (N + 1)]
        have hcell : ∀ (j : Nat) (u : Value), [hdr (N + 1) gl][j]? = some u -> (WZ.alloc (.cells #[.slice (some ⟨gl, 0, none⟩) (N + 1) (N + 1)] 74)).cell? ((⟨WZ.heap.size, 0, none⟩ : Addr).add j) = some u := by
         intro j u hu
         match j with
         | 0 =>
           simp at hu; subst hu; have := hnew.cell 0
           simp [Addr.add, hdr]
         | j + 1 => simp at hu
        have HS1 := ze (HS.out.below hx); clear hnew hx; go_wp2_with (at_builtin; go_must (refine vU (P := Tryz.prog) rfl (.tmp 133) (.tmp 135) _ rfl (w.heap.size + 1) 74 i0 _ 1 24 Tryz.underlying126 hi0 hz0 hz1 hz2 rfl (by omega) _ i _ rfl HS1.out.mat.own ⟨WZ.heap.size, 0, none⟩ 1 1 [hdr (N + 1) gl] rfl rfl (by omega) hcell hone hnoi hzn ?o4 ?o5 ?o6 ?_))
        case o4 => unfold maxLen; omega
        case o5 => omega
        case o6 => first | exact hsz | exact hsz2 | (simp; omega)
        intro v3 w3 hown3 hgr3 hat3; have HM3 := ze (HS1.out.mat.push HS1.out.row HS1.out.base HS1.out.ne hown3 hgr3 (fun j hj => HF.out j hj)); have hge := fun b hb => (HS1.out.mat.own.1.lt b hb).1
        have HK3 := ze (Blk.grown HS1.out.net hgr3 (fun e => by have := hge _ e.symm; omega)); have HW3 : Hid (Below w.heap.size w w3) := ze (HS1.out.low.grown hgr3 HS1.out.low.size (fun b hb => by have := hge b hb; omega)); clear hown3 hgr3 hat3 hcell hge HS1 HS hone hnoi hzn hsz hsz2; go_wp2_with fail; go_roundw
        case rel => exact ⟨i + 1, _, by omega, by go_num, HM3, HK3, HW3⟩
        case measure => simp [intOf]; omega
  . obtain rfl : N = i := by omega
    have HEL : Hid (X2 N T zvi 0 T) := by rw [<- HT.out]; exact HG.out.relim
    have HFIT := ze HG.out.rfits; clear HK hlt HP HC HB HLH HLL; go_wp2_with fail
    go_loopw [23] (SlvK w N T u12) (fun kv _ => N - (intOf kv).toNat)
    case atStart => exact ⟨0, T, g, Nat.zero_le _, rfl, HEL, HM, HW⟩
    case round =>
     clear HM HW HEL; obtain ⟨k, A, g, hk, rfl, HEL, HM, HW⟩ := hrel
     by_cases hkl : k < N
     . skip
       have hki : (k : Int) < (N : Int) := by omega
       have hk1 : (k : Int) < (N : Int) + 1 := by omega
       obtain ⟨gm, cap, rfl, hgm⟩ := HM.out.form (by omega); obtain ⟨p0, hp1, hp2, hne⟩ := HEL.out.1.pivot hkl; have HNE := ze hne; clear hne hgm; go_wp2_with fail
       go_loopw [24] (SlvP w N gm cap g A k p0) (fun pv _ => p0 - (intOf pv).toNat)
       case atStart => exact ⟨k, Nat.le_refl _, hp1, rfl, HM, HW⟩
       case round =>
        clear HM HW; obtain ⟨p, hp3, hp4, rfl, HM, HW⟩ := hrel; have hpN : p < N := by omega
        have hpi : (p : Int) < (N : Int) := by omega
        have ch := HM.out.cell hpN; obtain ⟨na, Xa, xa, ya, Za, za, ta, a0, a1, a2, hra⟩ := (HM.out.rows p hpN).2.2 k (by omega); have hs := fun w1 (h : Below wr.heap.size wr w1) => XT _ _ w1 (hra.below h)
        by_cases hz : A p k = 0
        . have hpp : p < p0 := by
           rcases Nat.lt_or_ge p p0 with h | h
           . exact h
           . obtain rfl : p = p0 := by omega
             exact absurd hz HNE.out
          have e : (A p k).num.sign = 0 := by rw [hz]; rfl
          rw [e] at hs; clear hz e hra; go_wp2_with fail; refine (hs _ (zF _)).mono ?_; rintro e w1 ⟨rfl, hb1⟩; have HM1 := ze (HM.out.below hb1); have HW1 := ze (ext HW.out hb1); clear hb1 hs HM HW; go_wp2_with fail; go_roundw
          case rel => exact ⟨p + 1, by omega, by omega, by go_num, HM1, HW1⟩
          case measure => simp [intOf]; omega
        . have e : ((A p k).num.sign == 0) = false := by
           rw [beq_eq_false_iff_ne]; intro e; exact hz (by have := Int.sign_eq_zero_iff_zero.1 e; exact Rat.num_eq_zero.1 this)
          generalize hsg : (A p k).num.sign = sg at e hs; have HZ := ze hz; clear hz hra hsg; go_wp2_with fail; refine (hs _ (zF _)).mono ?_; rintro e w1 ⟨rfl, hb1⟩; have HM1 := ze (HM.out.below hb1); have HW1 := ze (ext HW.out hb1); clear hb1 hs HM HW ch a0 a1 a2; have c1 := HM1.out.cell hpN; have c2 := HM1.out.cell hkl; have f1 := HM1.out.frozen p; have f2 := HM1.out.frozen k; have gL := HM1.out.lt.2; have HM2 := ze (HM1.out.swap hkl hpN)
          obtain ⟨u, hu⟩ : ∃ u, (w1.setCell ⟨gm, p, none⟩ (.slice (some ⟨g k, 0, none⟩) (N + 1) (N + 1))).cell? ⟨gm, k, none⟩ = some u := by
           by_cases e : p = k
           . subst e
             exact ⟨_, World.cell?_setCell_same w1 _ _ (by rw [c1])⟩
           . exact ⟨_, (World.cell?_setCell_other w1 _ _ _ (fun h => e (by injection h with _ h2))).trans c2⟩
          go_upto_region 36 with fail
          go_region
          have HM3 := ze (HM2.out.below (zK _).out)
          have HW3 : Hid (Below w.heap.size w (((w1.setCell ⟨gm, p, none⟩ (.slice (some ⟨g k, 0, none⟩) (N + 1) (N + 1))).setCell ⟨gm, k, none⟩ (.slice (some ⟨g p, 0, none⟩) (N + 1) (N + 1))).drew)) := by
           have := HM1.out.lt.1; exact zk ((HW1.out.setCell (p := ⟨gm, p, none⟩) (by show w.heap.size <= gm; omega) _).setCell (p := ⟨gm, k, none⟩) (by show w.heap.size <= gm; omega) _) 1
          have HEB := ze (HEL.out.swapped hp3 hpN); have HB0 : Hid (swapped A k p k k ≠ 0) := ze (by unfold swapped; rw [if_pos rfl]; exact HZ.out); have HM4 : Hid (x7 (w.heap.size + 1) _ (.slice (some ⟨gm, 0, none⟩) N cap) (N + 1) N (fun i => if i = k then g p else if i = p then g k else g i) (swapped A k p)) := HM3.out; clear HM1 HM2 HM3 HW1 c1 c2 f1 f2 hu gL HZ HNE HEL e; generalize ((w1.setCell ⟨gm, p, none⟩ (.slice (some ⟨g k, 0, none⟩) (N + 1) (N + 1))).setCell ⟨gm, k, none⟩ (.slice (some ⟨g p, 0, none⟩) (N + 1) (N + 1))).drew = W2 at HM4 HW3 |-; generalize (fun i => if i = k then g p else if i = p then g k else g i) = g2 at HM4; generalize swapped A k p = B at HM4 HEB HB0; clear hp3 hp4 hpi hpN; go_wp2_with fail
          go_loopw [25] (SlvI w N gm cap g2 k B) (fun iv _ => N - (intOf iv).toNat)
          case atStart => exact ⟨0, Nat.zero_le _, rfl, by rw [ze4]; exact HM4, HW3⟩
          case round =>
           clear HM4 HW3; obtain ⟨i, hi2, rfl, HM, HW⟩ := hrel
           by_cases hil : i < N
           . have hii : (i : Int) < (N : Int) := by omega
             by_cases hik : i = k
             . have hd : ((i : Int) == (k : Int)) = true := by rw [beq_iff_eq]; omega
               have HS := ze (XQ (A := B) (k := k) (i := i) (.inl hik)); have HM1 : Hid (x7 (w.heap.size + 1) wr (.slice (some ⟨gm, 0, none⟩) N cap) (N + 1) N g2 (freed B k (i + 1))) := by rw [HS.out]; exact HM
               clear hik HM HS; go_wp2_with fail; go_round
               case rel => exact ⟨i + 1, by omega, by go_num, HM1, HW⟩
               case measure => simp [intOf]; omega
             . have hd : ((i : Int) == (k : Int)) = false := by rw [beq_eq_false_iff_ne]; omega
               have HIK := ze hik; have ch := HM.out.cell hil; obtain ⟨na, Xa, xa, ya, Za, za, ta, a0, a1, a2, hra⟩ := (HM.out.rows i hil).2.2 k (by omega); rw [zdh] at hra; have hs := fun w1 (h : Below wr.heap.size wr w1) => XT _ _ w1 (hra.below h)
               by_cases hz : B i k = 0
               . have e : (B i k).num.sign = 0 := by rw [hz]; rfl
                 rw [e] at hs; have HS := ze (XQ (A := B) (k := k) (i := i) (.inr hz)); have HM1 : Hid (x7 (w.heap.size + 1) wr (.slice (some ⟨gm, 0, none⟩) N cap) (N + 1) N g2 (freed B k (i + 1))) := by rw [HS.out]; exact HM
                 clear hik hz e HM hra HS; go_wp2_with fail; refine (hs _ (zF _)).mono ?_; rintro e w1 ⟨rfl, hb1⟩; have HM2 := ze (HM1.out.below hb1); have HW1 := ze (ext HW.out hb1); clear hb1 hs HM1 HW; go_wp2_with fail; go_round
                 case rel => exact ⟨i + 1, by omega, by go_num, HM2, HW1⟩
                 case measure => simp [intOf]; omega
               . have e : ((B i k).num.sign == 0) = false := by
                  rw [beq_eq_false_iff_ne]; intro e; exact hz (by have := Int.sign_eq_zero_iff_zero.1 e; exact Rat.num_eq_zero.1 this)
                 generalize hsg : (B i k).num.sign = sg at e hs; clear hz hik hra hsg; go_wp2_with fail; refine (hs _ (zF _)).mono ?_; rintro e w1 ⟨rfl, hb1⟩; have HM1 := ze (HM.out.below hb1); have HW1 := ze (ext HW.out hb1); clear hb1 hs HM HW ch a0 a1 a2
                 go_upto_region 41 with fail
                 go_cut [26] from 168 to 230 (fun s wc => ∃ gb, s = .pointer (some ⟨gb, 0, none⟩) /\ Hid (zse wc gb (B i k / B k k)) /\ Hid (∀ j, j < N -> g2 j ≠ gb) /\ Hid (x7 (w.heap.size + 1) wc (.slice (some ⟨gm, 0, none⟩) N cap) (N + 1) N g2 (freed B k i)) /\ Hid (Below w.heap.size w wc))
                 case first =>
                  skip
                  have c1 := HM1.out.cell hil; have c2 := HM1.out.cell hkl; have mL := HM1.out.lt.2; obtain ⟨na, Xa, xa, ya, Za, za, ta, a0, a1, a2, hra⟩ := (HM1.out.rows i hil).2.2 k (by omega); obtain ⟨nb, Xb, xb, yb, Zb, zb, tb, b0, b1, b2, hrb⟩ := (HM1.out.rows k hkl).2.2 k (by omega); have aL := (HM1.out.rows i hil).2.lt; have bL := (HM1.out.rows k hkl).2.lt; rw [zdh] at hra; rw [ze5] at hrb; have HRA := ze hra; have HRB := ze hrb; have HN1 := ze (HEB.out.nl (Nat.le_of_lt hkl) HFIT.out hil (Nat.le_of_lt hkl)); have HN2 := ze (HEB.out.nl (Nat.le_of_lt hkl) HFIT.out hkl (Nat.le_of_lt hkl)); have HLT : Hid (∀ j, j < N -> g2 j < w1.heap.size) := fun j hj => (HM1.out.rows j hj).2.lt
                  have HGML := ze mL; have HW1L := ze HW1.out.size; clear hra hrb; refine yq (S := fun w' => Hid (Below w1.heap.size w1 w') /\ w'.cell? ⟨gm, i, none⟩ = some (.slice (some ⟨g2 i, 0, none⟩) (N + 1) (N + 1)) /\ w'.cell? ⟨gm, k, none⟩ = some (.slice (some ⟨g2 k, 0, none⟩) (N + 1) (N + 1)) /\ w'.cell? ⟨g2 i, k * 3, none⟩ = some (.bool na) /\ w'.cell? ⟨g2 i, k * 3 + 1, none⟩ = some (.slice Xa xa ya) /\ w'.cell? ⟨g2 i, k * 3 + 2, none⟩ = some (.slice Za za ta) /\ w'.cell? ⟨g2 k, k * 3, none⟩ = some (.bool nb) /\ w'.cell? ⟨g2 k, k * 3 + 1, none⟩ = some (.slice Xb xb yb) /\ w'.cell? ⟨g2 k, k * 3 + 2, none⟩ = some (.slice Zb zb tb)) 14 2 16 rfl (by kernel_rfl) (by kernel_rfl) (by kernel_rfl) rfl (zU (zK w1) (fun hB => ⟨zr hB mL c1, zr hB mL c2, zr hB aL a0, zr hB aL a1, zr hB aL a2, zr hB bL b0, zr hB bL b1, zr hB bL b2⟩)) ?_ (fun hHeld => ?_)
                  . intro _ _ _ _ _ h9; exact h9
                  simp only [List.take_succ_cons, List.take_zero]
                  iterate 14 (refine vq (v := ?_) ?_ ?_; rotate_left; (focus (as_aux_lemma => (intro w9 hSw; (try dsimp only at hSw); go_split_ands; go_simp; try with_reducible rfl))); try simp only [Act.put, List.setIfInBounds_toArray, List.set_cons_zero, List.set_cons_succ])
                  refine vZ ?_; refine HH.ready (rs := [14, 15]) (by kernel_rfl) (by simp) (by kernel_rfl) ?_; refine xP.cons (o := _) rfl (fun K hK => ?_) (xP.cons (o := _) rfl (fun K hK => ?_) xP.nil)
                  . skip
                    go_simp
                    go_at_call 71; refine (Xz _ _ _ _ _ (HRA.out.below (zK w1).out) (HRB.out.below (zK w1).out) HN1.out HN2.out HB0.out).mono ?_; rintro e w2 ⟨v, rfl, hv, hb1⟩; have HV := ze hv; have HB12 := z7 hb1 (zK w1); have HMW := ze (HM1.out.below HB12.out); have HWW := ze (ext HW1.out HB12.out); clear hv HM1 HW1; have hH0 := hHeld; clear hHeld; refine hK.out _ _ (zU (z7 hb1 hH0.1) (fun hB => ⟨zr hB mL c1, zr hB mL c2, zr hB aL a0, zr hB aL a1, zr hB aL a2, zr hB bL b0, zr hB bL b1, zr hB bL b2⟩)) (fun hHeld => ?_); clear hH0 hK K
                    try simp only [Act.put, List.setIfInBounds_toArray, List.set_cons_zero, List.set_cons_succ]
                    refine HH.ready (rs := [15]) (by kernel_rfl) (by simp) (by kernel_rfl) ?_; refine xP.cons (o := _) rfl (fun K hK => ?_) xP.nil
                    go_simp
                    have hH0 := hHeld; clear hHeld; refine hK.out _ _ (zU (Z8 hH0.1) (fun hB => ⟨zr hB mL c1, zr hB mL c2, zr hB aL a0, zr hB aL a1, zr hB aL a2, zr hB bL b0, zr hB bL b1, zr hB bL b2⟩)) (fun hHeld => ?_); clear hH0 hK K
                    try simp only [Act.put, List.setIfInBounds_toArray, List.set_cons_zero, List.set_cons_succ]
                    refine HH.done (by kernel_rfl) ?_; simp only [List.drop_succ_cons, List.drop_zero]; clear HRA HRB a0 a1 a2 b0 b1 b2 aL bL mL c1 c2 HN1 HN2 hHeld; obtain ⟨ng, X, n2, c8, Y, m2, d2, rfl, hv0⟩ := HV.out; clear hv0; go_wp2_with fail; go_meet; have hx := zg w2 (.cells #[.bool ng, .slice X n2 c8, .slice Y m2 d2] 80); refine ⟨w2.heap.size, rfl, ⟨ng, X, n2, c8, Y, m2, d2, Blk.new _ _ _, HV.out.below hx⟩, fun j hj e => ?_, HMW.out.below hx, ext HWW.out hx⟩; have := HLT.out j hj; have := HB12.out.size
                    omega
                  . skip
                    go_simp
                    have HKN := (Blk.new w1 80 #[.bool false, .slice none 0 0, .slice none 0 0]).drew; have hH0 := hHeld; clear hHeld; refine hK.out _ _ (zU (ys w1 _) (fun hB => ⟨zr hB mL c1, zr hB mL c2, zr hB aL a0, zr hB aL a1, zr hB aL a2, zr hB bL b0, zr hB bL b1, zr hB bL b2⟩)) (fun hHeld => ?_); clear hH0 hK K
                    try simp only [Act.put, List.setIfInBounds_toArray, List.set_cons_zero, List.set_cons_succ]
                    refine HH.ready (rs := [14]) (by kernel_rfl) (by simp) (by kernel_rfl) ?_; refine xP.cons (o := _) rfl (fun K hK => ?_) xP.nil
                    go_simp
                    go_at_call 71; refine (Xz _ _ _ _ _ (HRA.out.below (ys w1 _).out) (HRB.out.below (ys w1 _).out) HN1.out HN2.out HB0.out).mono ?_; rintro e w2 ⟨v, rfl, hv, hb1⟩; have HV := ze hv; have HB12 := z7 hb1 (ys w1 _); have HMW := ze (HM1.out.below HB12.out); have HWW := ze (ext HW1.out HB12.out); have HKB := ze (HKN.below hb1 HKN.lt); clear hv HM1 HW1 HKN; have hH0 := hHeld; clear hHeld; refine hK.out _ _ (zU (z7 hb1 hH0.1) (fun hB => ⟨zr hB mL c1, zr hB mL c2, zr hB aL a0, zr hB aL a1, zr hB aL a2, zr hB bL b0, zr hB bL b1, zr hB bL b2⟩)) (fun hHeld => ?_); clear hH0 hK K
                    try simp only [Act.put, List.setIfInBounds_toArray, List.set_cons_zero, List.set_cons_succ]
                    refine HH.done (by kernel_rfl) ?_; simp only [List.drop_succ_cons, List.drop_zero]; clear HRA HRB a0 a1 a2 b0 b1 b2 aL bL mL c1 c2 HN1 HN2 hHeld hb1; obtain ⟨ng, X, n2, c8, Y, m2, d2, rfl, hv0⟩ := HV.out; clear hv0; have r0 := HKB.out.cell 0; have r1 := HKB.out.cell 1; have r2 := HKB.out.cell 2; have f0 := HKB.out.frozen 0; have f1 := HKB.out.frozen 1; have f2 := HKB.out.frozen 2; simp at r0 r1 r2; go_wp2_with fail; go_meet
                    have hc : Chg (fun b => b = w1.heap.size) w2 (World.ref w2 w1.heap.size ng X n2 c8 Y m2 d2) :=
                     Chg.setCell (S := fun b => b = w1.heap.size) (Chg.setCell (S := fun b => b = w1.heap.size) (Chg.setCell (S := fun b => b = w1.heap.size) (Chg.refl w2) (p := ⟨w1.heap.size, 0, none⟩) rfl _) (p := ⟨w1.heap.size, 1, none⟩) rfl _) (p := ⟨w1.heap.size, 2, none⟩) rfl _
                    have hS : ∀ b, b = w1.heap.size -> Y2 w2 b := fun b e => by subst e; exact HKB.out.noI64 (zl6 _ _ _ _ _ _ _)
                    have hne : ∀ j, j < N -> g2 j ≠ w1.heap.size := fun j hj e => by have := HLT.out j hj; omega
                    have hmL := HGML.out; refine ⟨w1.heap.size, rfl, ⟨ng, X, n2, c8, Y, m2, d2, yH HKB.out, hc.ref HV.out hS⟩, hne, HMW.out.chg hc hne (fun b hb e => ?_) hS, yu HWW.out HW1L.out⟩; have : gm = b := by simpa [Value.ownBlock] using hb
                    omega
                 case rest =>
                  clear HM1 HW1; obtain ⟨gb, rfl, HFB, HFN, HM, HW⟩ := hcut; have HQN := ze (HEB.out.qnl hkl HFIT.out hil (Nat.le_of_lt hkl) HB0.out); go_wp2_with fail
                  go_loopw [27] (SlvC w N gm cap g2 k i gb B) (fun cv _ => N + 1 - (intOf cv).toNat)
                  case atStart => exact ⟨k, Nat.le_refl _, by omega, rfl, by rw [zek]; exact HM, HFB, HW⟩
                  case round =>
                   clear HM HFB HW; obtain ⟨cq, hc1, hc2, rfl, HM, HFB, HW⟩ := hrel
                   by_cases hcl : cq <= N
                   . have hci : (cq : Int) <= (N : Int) := by omega
                     have hci1 : (cq : Int) < (N : Int) + 1 := by omega
                     have d1 := HM.out.cell hil; have d2 := HM.out.cell hkl; have mL := HM.out.lt.2; obtain ⟨na, Xa, xa, ya, Za, za, ta, a0, a1, a2, hra⟩ := (HM.out.rows i hil).2.2 cq (by omega); obtain ⟨nb, Xb, xb, yb, Zb, zb, tb, b0, b1, b2, hrb⟩ := (HM.out.rows k hkl).2.2 cq (by omega); obtain ⟨nf, Xf, xf, yf, Zf, zf, tf, hkf, hrf⟩ := HFB.out; have e0 := hkf.cell 0; have e1 := hkf.cell 1; have e2 := hkf.cell 2; simp at e0 e1 e2; have eL := hkf.lt; have aL := (HM.out.rows i hil).2.lt; have bL := (HM.out.rows k hkl).2.lt; rw [zlr (Nat.le_refl _)] at hra; rw [zto HIK.out] at hrb; have HRA := ze hra; have HRB := ze hrb; have HRF := ze hrf; have HN1 := ze (HEB.out.nl (Nat.le_of_lt hkl) HFIT.out hil hcl); have HN2 := ze (HEB.out.nl (Nat.le_of_lt hkl) HFIT.out hkl hcl); have HN3 := ze (HEB.out.pnl hkl HFIT.out hil hcl HB0.out); clear hra hrb hrf hkf
                     go_upto_region 45 with fail
                     refine yq (S := fun w' => Hid (Below wr.heap.size wr w') /\ w'.cell? ⟨gm, i, none⟩ = some (.slice (some ⟨g2 i, 0, none⟩) (N + 1) (N + 1)) /\ w'.cell? ⟨gm, k, none⟩ = some (.slice (some ⟨g2 k, 0, none⟩) (N + 1) (N + 1)) /\ w'.cell? ⟨g2 i, cq * 3, none⟩ = some (.bool na) /\ w'.cell? ⟨g2 i, cq * 3 + 1, none⟩ = some (.slice Xa xa ya) /\ w'.cell? ⟨g2 i, cq * 3 + 2, none⟩ = some (.slice Za za ta) /\ w'.cell? ⟨g2 k, cq * 3, none⟩ = some (.bool nb) /\ w'.cell? ⟨g2 k, cq * 3 + 1, none⟩ = some (.slice Xb xb yb) /\ w'.cell? ⟨g2 k, cq * 3 + 2, none⟩ = some (.slice Zb zb tb) /\ w'.cell? ⟨gb, 0, none⟩ = some (.bool nf) /\ w'.cell? ⟨gb, 1, none⟩ = some (.slice Xf xf yf) /\ w'.cell? ⟨gb, 2, none⟩ = some (.slice Zf zf tf)) 20 2 22 rfl (by kernel_rfl) (by kernel_rfl) (by kernel_rfl) rfl (zU (zK wr) (fun hB => ⟨zr hB mL d1, zr hB mL d2, zr hB aL a0, zr hB aL a1, zr hB aL a2, zr hB bL b0, zr hB bL b1, zr hB bL b2, zr hB eL e0, zr hB eL e1, zr hB eL e2⟩)) ?_ (fun hHeld => ?_)
                     . intro _ _ _ _ _ h9; exact h9
                     simp only [List.take_succ_cons, List.take_zero]
                     iterate 20 (refine vq (v := ?_) ?_ ?_; rotate_left; (focus (as_aux_lemma => (intro w9 hSw; (try dsimp only at hSw); go_split_ands; go_simp; try with_reducible rfl))); try simp only [Act.put, List.setIfInBounds_toArray, List.set_cons_zero, List.set_cons_succ])
                     refine vZ ?_; refine HH.ready (rs := [20]) (by kernel_rfl) (by simp) (by kernel_rfl) ?_; refine xP.cons (o := _) rfl (fun K hK => ?_) xP.nil
                     go_simp
                     go_at_call 48; refine (VG _ _ _ _ _ (HRF.out.below (zK wr).out) (HRB.out.below (zK wr).out) HQN.out HN2.out).mono ?_; rintro e w1 ⟨v, rfl, hv, hb1⟩; have HV := ze hv; clear hv; have hH0 := hHeld; clear hHeld; refine hK.out _ _ (zU (z7 hb1 hH0.1) (fun hB => ⟨zr hB mL d1, zr hB mL d2, zr hB aL a0, zr hB aL a1, zr hB aL a2, zr hB bL b0, zr hB bL b1, zr hB bL b2, zr hB eL e0, zr hB eL e1, zr hB eL e2⟩)) (fun hHeld => ?_); clear hH0 hK K
                     try simp only [Act.put, List.setIfInBounds_toArray, List.set_cons_zero, List.set_cons_succ]
                     refine HH.ready (rs := [21]) (by kernel_rfl) (by simp) (by kernel_rfl) ?_; refine xP.cons (o := _) rfl (fun K hK => ?_) xP.nil
                     go_simp
                     go_at_call 49; refine (zft _ _ _ _ _ (HRA.out.below hHeld.1.out) HV.out HN1.out HN3.out).mono ?_; rintro e w2 ⟨v2, rfl, hv, hb2⟩; have HV2 := ze hv; clear hv; have hH0 := hHeld; clear hHeld; refine hK.out _ _ (zU (z7 hb2 hH0.1) (fun hB => ⟨zr hB mL d1, zr hB mL d2, zr hB aL a0, zr hB aL a1, zr hB aL a2, zr hB bL b0, zr hB bL b1, zr hB bL b2, zr hB eL e0, zr hB eL e1, zr hB eL e2⟩)) (fun hHeld => ?_); clear hH0 hK K
                     try simp only [Act.put, List.setIfInBounds_toArray, List.set_cons_zero, List.set_cons_succ]
                     have HBY := (hHeld.1).out; replace HM := ze (x7.below HM.out HBY); replace HFB := ze (zse.below HFB.out HBY); replace HW := eb_ HW HBY; clear HBY hHeld; refine HH.done (by kernel_rfl) ?_; simp only [List.drop_succ_cons, List.drop_zero]; clear HRA HRB HRF HV a0 a1 a2 b0 b1 b2 e0 e1 e2 eL aL bL mL d1 d2 HN1 HN2 HN3; obtain ⟨ng, X, n2, c8, Y, m2, d2, rfl, hv0⟩ := HV2.out; have HMS := ze (HM.out.set (A' := zgy B k i (cq + 1)) hil (show cq < N + 1 by omega) HV2.out (fun i' k' => by rw [<- zlk hc1])); have HFS := ze (HFB.out.chg (Yk (w := w2) (g := g2 i) (k := cq) (ng := ng) (A := X) (n := n2) (c := c8) (B := Y) (m := m2) (d := d2)) (fun e => HFN.out i hil e.symm) (fun b e => by subst e; exact (HM.out.rows i hil).2.noI64)); have HWS := ze (show Below w.heap.size w (World.refAt w2 (g2 i) cq ng X n2 c8 Y m2 d2) from HW.out.trans ((Yk (w := w2) (g := g2 i)).below HW.out.size (fun b e => by have := (HM.out.rows i hil).1; omega))); obtain ⟨u0, u1, u2, s0, s1, s2⟩ := (HM.out.rows i hil).2.slots (show cq < N + 1 by omega); have f0 := (HM.out.rows i hil).2.frozen (cq * 3); have f1 := (HM.out.rows i hil).2.frozen (cq * 3 + 1)
                     have f2 := (HM.out.rows i hil).2.frozen (cq * 3 + 2); clear hv0 HM HFB HW HV2 hb1 hb2; go_wp2_with fail; go_roundw
                     case rel => exact ⟨cq + 1, by omega, by omega, by go_num, HMS, HFS, HWS⟩
                     case measure => simp [intOf]; omega
                   . obtain rfl : cq = N + 1 := by omega
                     have HM1 : Hid (x7 (w.heap.size + 1) wr (.slice (some ⟨gm, 0, none⟩) N cap) (N + 1) N g2 (freed B k (i + 1))) := by
                      have h := HM.out; rw [zhr HEB.out hkl HIK.out] at h; exact h
                     clear HM; go_wp2_with fail; go_roundw
                     case rel => exact ⟨i + 1, by omega, by go_num, HM1, HW⟩
                     case measure => simp [intOf]; omega
           . obtain rfl : i = N := by omega
             have HEN := ze (HEB.out.freed hkl HB0.out); go_wp2_with fail; go_roundw
             case rel => exact ⟨k + 1, _, g2, by omega, by go_num, HEN, HM, HW⟩
             case measure => simp [intOf]; omega
     . obtain rfl : N = k := by omega
       have HLT : Hid (∀ j, j < N -> g j < wr.heap.size) := fun j hj => (HM.out.rows j hj).2.lt
       have HLM : Hid (∀ b, u12.ownBlock = some b -> b < wr.heap.size) := fun b hb => (HM.out.own.1.lt b hb).2
       have HLW := ze HW.out.size; clear hkl; generalize hWE : wr.heap.size = BE at HLT HLM HLW; have HWE := ze hWE; clear hWE; go_wp2_with fail
       go_loopw [28, 29] (SlvO w N u12 g A BE) (fun _ iv _ => N - (intOf iv).toNat)
       case atStart => exact ⟨0, Nat.zero_le _, rfl, Z9.nil _ _ _, HM, HW, by rw [HWE.out]; exact Nat.le_refl _⟩
       case round =>
        clear HM HW HWE; obtain ⟨i, hi2, rfl, HO, HM, HW, HBE⟩ := hrel
        by_cases hil : i < N
        . have hii : (i : Int) < (N : Int) := by omega
          have hi1 : (i : Int) < (N : Int) + 1 := by omega
          have hNn : (N : Int) < (N : Int) + 1 := by omega
          obtain ⟨gm, cap, rfl, hgm, _⟩ := HM.out.form (by omega); have d1 := HM.out.cell hil; have mL := HM.out.lt.2; obtain ⟨na, Xa, xa, ya, Za, za, ta, a0, a1, a2, hra⟩ := (HM.out.rows i hil).2.2 N (by omega); obtain ⟨nb, Xb, xb, yb, Zb, zb, tb, b0, b1, b2, hrb⟩ := (HM.out.rows i hil).2.2 i (by omega); have aL := (HM.out.rows i hil).2.lt; have HRA := ze hra; have HRB := ze hrb; have HN1 := ze (HEL.out.nl (Nat.le_refl _) HFIT.out hil (Nat.le_refl _)); have HN2 := ze (HEL.out.nl (Nat.le_refl _) HFIT.out hil (Nat.le_of_lt hil)); have HNZ := ze (HEL.out.1.2.1 i hil).1; obtain ⟨i0, hi0, hz0, hz1, hz2⟩ := info_parts zja; clear hra hrb hgm
          go_upto_region 50 with fail
          refine yq (S := fun w' => Hid (Below wr.heap.size wr w') /\ w'.cell? ⟨gm, i, none⟩ = some (.slice (some ⟨g i, 0, none⟩) (N + 1) (N + 1)) /\ w'.cell? ⟨g i, N * 3, none⟩ = some (.bool na) /\ w'.cell? ⟨g i, N * 3 + 1, none⟩ = some (.slice Xa xa ya) /\ w'.cell? ⟨g i, N * 3 + 2, none⟩ = some (.slice Za za ta) /\ w'.cell? ⟨g i, i * 3, none⟩ = some (.bool nb) /\ w'.cell? ⟨g i, i * 3 + 1, none⟩ = some (.slice Xb xb yb) /\ w'.cell? ⟨g i, i * 3 + 2, none⟩ = some (.slice Zb zb tb)) 15 2 17 rfl (by kernel_rfl) (by kernel_rfl) (by kernel_rfl) rfl (zU (zK wr) (fun hB => ⟨zr hB mL d1, zr hB aL a0, zr hB aL a1, zr hB aL a2, zr hB aL b0, zr hB aL b1, zr hB aL b2⟩)) ?_ (fun hHeld => ?_)
          . intro _ _ _ _ _ h9; exact h9
          simp only [List.take_succ_cons, List.take_zero]
          iterate 15 (refine vq (v := ?_) ?_ ?_; rotate_left; (focus (as_aux_lemma => (intro w9 hSw; (try dsimp only at hSw); go_split_ands; go_simp; try with_reducible rfl))); try simp only [Act.put, List.setIfInBounds_toArray, List.set_cons_zero, List.set_cons_succ])
          refine vZ ?_; refine HH.ready (rs := [15]) (by kernel_rfl) (by simp) (by kernel_rfl) ?_; refine xP.cons (o := _) rfl (fun K hK => ?_) xP.nil
          go_simp
          go_at_call 71; refine (Xz _ _ _ _ _ (HRA.out.below (zK wr).out) (HRB.out.below (zK wr).out) HN1.out HN2.out HNZ.out).mono ?_; rintro e w1 ⟨v, rfl, hv, hb1⟩; have HV := ze hv; have HBE1 : Hid (BE <= w1.heap.size) := ze (Nat.le_trans HBE.out (Nat.le_trans (zK wr).out.size hb1.size)); clear hv; obtain ⟨ng, X, n2, c8, Y, m2, d2, rfl, hv0⟩ := HV.out; clear hv0; have hH0 := hHeld; clear hHeld; refine hK.out _ _ (zU (z7 hb1 hH0.1) (fun hB => ⟨zr hB mL d1, zr hB aL a0, zr hB aL a1, zr hB aL a2, zr hB aL b0, zr hB aL b1, zr hB aL b2⟩)) (fun hHeld => ?_); clear hH0 hK K
          try simp only [Act.put, List.setIfInBounds_toArray, List.set_cons_zero, List.set_cons_succ]
          refine HH.ready (rs := [16]) (by kernel_rfl) (by simp) (by kernel_rfl) ?_; refine xP.cons (o := _) rfl (fun K hK => ?_) xP.nil
          go_simp
          have hH0 := hHeld; clear hHeld; refine hK.out _ _ (zU (Z8 hH0.1) (fun hB => ⟨zr hB mL d1, zr hB aL a0, zr hB aL a1, zr hB aL a2, zr hB aL b0, zr hB aL b1, zr hB aL b2⟩)) (fun hHeld => ?_); clear hH0 hK K
          try simp only [Act.put, List.setIfInBounds_toArray, List.set_cons_zero, List.set_cons_succ]
          have HBY := (hHeld.1).out; replace HM := ze (x7.below HM.out HBY); replace HO := ze (Z9.below HO.out HBY); replace HW := eb_ HW HBY; clear HBY hHeld; refine HH.done (by kernel_rfl) ?_; simp only [List.drop_succ_cons, List.drop_zero]; clear HRA HRB a0 a1 a2 b0 b1 b2 aL mL d1 HN1 HN2 HNZ hb1; have HNK := ze (Blk.new w1 80 #[.bool ng, .slice X n2 c8, .slice Y m2 d2]); have HVK := ze (HV.out.below (zg w1 (.cells #[.bool ng, .slice X n2 c8, .slice Y m2 d2] 80)))
          have HBE2 : Hid (BE <= (w1.alloc (.cells #[.bool ng, .slice X n2 c8, .slice Y m2 d2] 80)).heap.size) := by
           have := HBE1.out
           show BE <= _
           rw [World.size_alloc]; omega
          have hcell : ∀ (j : Nat) (u : Value), [Value.bool ng, .slice X n2 c8, .slice Y m2 d2][j]? = some u -> (w1.alloc (.cells #[.bool ng, .slice X n2 c8, .slice Y m2 d2] 80)).cell? ((⟨w1.heap.size, 0, none⟩ : Addr).add j) = some u := by
           intro j u hu
           have e : ((⟨w1.heap.size, 0, none⟩ : Addr).add j) = ⟨w1.heap.size, j, none⟩ := by
            unfold Addr.add
            by_cases h : j = 0
            . subst h; rfl
            . simp [h]
           rw [e, HNK.out.cell j]; rw [<- hu]
           simp
          generalize (w1.alloc (.cells #[.bool ng, .slice X n2 c8, .slice Y m2 d2] 80)) = WK at HM HO HW HNK HVK HBE2 hcell |-; generalize w1.heap.size = gk at hcell |-; obtain ⟨xs, ho1, ho3⟩ := HO.out; have HO1 := ze ho1; have HO3 := ze ho3; have hone : ∀ u ∈ [Value.bool ng, .slice X n2 c8, .slice Y m2 d2], u.oneCell' = true := by intro u hu; simp at hu; rcases hu with rfl | rfl | rfl <;> rfl
          have hnoi : ∀ u ∈ [Value.bool ng, .slice X n2 c8, .slice Y m2 d2], zhe u := by
           intro u hu; simp at hu
           rcases hu with rfl | rfl | rfl
           . exact zd2 _
           . exact vX _ _ _
           . exact vX _ _ _
          have hzn : ∀ u ∈ (Value.agg #[.bool false, .slice none 0 0, .slice none 0 0]).cells, zhe u := VU (zl6 _ _ _ _ _ _ _); clear ho1 ho3 HO HNK; go_wp2_with (at_builtin; go_loud (refine vU (P := Tryz.prog) rfl (.tmp 236) (.tmp 252) _ rfl BE 80 i0 _ 3 56 Tryz.underlying74 hi0 hz0 hz1 hz2 rfl (by omega) _ i xs rfl HO1.out ⟨gk, 0, none⟩ 1 1 [.bool ng, .slice X n2 c8, .slice Y m2 d2] rfl rfl (by omega) hcell hone hnoi hzn ?o4 ?o5 HBE2.out ?_))
          case o4 => unfold maxLen; omega
          case o5 => omega
          intro v3 w3 hown3 hgr3 hat3; have hc : Chg (fun b => u28.ownBlock = some b) WK w3 := ⟨hgr3.os, hgr3.tape, hgr3.output, hgr3.size, fun k hk hS => hgr3.block k hk (fun e => hS e.symm)⟩; have hge := fun b hb => (HO1.out.1.lt b hb).1
          have HOO := ze (Z9.push (f' := fun k => A k N / A k k) HO1.out HO3.out hown3 hgr3 HVK.out (fun k hk => rfl) rfl); have HMM := ze (HM.out.chg hc (fun j hj e => by have := hge _ e; have := HLT.out j hj; omega) (fun b hb e => by have := hge _ e; have := HLM.out b hb; omega) HO1.out.2); have HWW := ze (HW.out.trans (hc.below HW.out.size (fun b e => by have := hge _ e; have := HLW.out; omega))); have HBE3 := ze (Nat.le_trans HBE2.out hc.size); clear hown3 hgr3 hat3 hcell hone hnoi hzn hc hge HO1 HO3 HM HW HBE1 HBE2 HVK HV; go_wp2_with fail; go_roundw
          case rel => exact ⟨i + 1, by omega, by go_num, HOO, HMM, HWW, HBE3⟩
          case measure => simp [intOf]; omega
        . obtain rfl : N = i := by omega
          have HIS := ze (HG.out.rdone (by rw [HT.out]; exact HEL.out)); have HDZ : Hid (∀ k, k < N -> Dz zm0 (A k N / A k k)) := fun k hk => HEL.out.adz HFIT.out hk
          go_wp2_with fail; go_ret; exact ⟨_, _, rfl, HO.out.nums, HIS.out, HDZ.out, HW.out⟩
def TxsR (n : Nat) (f : Nat -> Rat) (w : World) (ov iv : Value) (wr : World) : Prop :=
 ∃ i : Nat, i <= n /\ iv = .int .i64 i /\ Hid (wr.ownsRow w.heap.size 28 1 ov i ((List.range i).map fun i => str (zi (f i)))) /\ Hid (Below w.heap.size w wr)
def zvn (n : Nat) (f : Nat -> Rat) (w : World) (e : Ending) (w' : World) : Prop :=
 ∃ A cap, e = .returned (.slice A n cap) /\ n <= cap /\ zD w' w'.heap.size 1 A n (row n fun k => str (zi (f k))) /\ Below w.heap.size w w'
theorem zix (v : Value) (n : Nat) (f : Nat -> Rat) (w : World) (hn : Zv w v n f) (hl : ∀ k, k < n -> Xq 33554432 (f k)) (h1000 : n <= 1000) :
 Calls Tryz.prog 46 #[v] w (zvn n f w) := by
 have HN := ze hn
 have HL := ze hl
 obtain ⟨A, cap, rfl, hcap, hcm, _⟩ := hn
 obtain ⟨i0, hi0, hz0, hz1, hz2⟩ := info_parts zf2
 clear hl
 go_enter Tryz.func46, Tryz.ntmps46
 go_wp2_with fail
 go_loopw [3, 4] (TxsR n f w) (fun _ iv _ => n - (intOf iv).toNat)
 case atStart => exact ⟨0, Nat.zero_le _, rfl, World.ownsRow_nil _ _ _ _, zF _⟩
 case round =>
  obtain ⟨i, hi, rfl, HO, HW⟩ := hrel
  by_cases hil : i < n
  . have hii : (i : Int) < (n : Int) := by omega
    obtain ⟨gc, eC, lC, nb, Xb, xb, yb, Zb, zb, tb, b0, b1, b2, hrb⟩ := (HN.out.below HW.out).at_ hil; subst eC; have ht := zgf _ _ wr hrb (HL.out i hil); clear hrb; go_wp2_with fail; refine ht.mono ?_; rintro e w1 ⟨rfl, hb1⟩; have HW1 := ze (ext HW.out hb1); have HO1 := ze (xU HO.out hb1); clear hb1 ht b0 b1 b2 lC HW HO
    have h1c : ∀ u ∈ [str (zi (f i))], u.oneCell' = true := by
     intro u hu; rw [List.mem_singleton] at hu; subst hu; rfl
    have hrd := yX w1 28 (str (zi (f i))); go_wp2_with (at_builtin; go_loud (refine zB _ rfl (.tmp 11) (.tmp 17) _ rfl w.heap.size 28 i0 _ 1 16 Tryz.underlying27 hi0 hz0 hz1 hz2 rfl (by omega) _ i _ rfl (HO1.out.alloc _) _ (some ⟨w1.heap.size, 0, none⟩) 1 1 _ rfl hrd h1c ?o2 ?o3 ?o4 ?_))
    case o2 => unfold maxLen; omega
    case o3 => omega
    case o4 => have := HW1.out.size; simp; omega
    intro v3 w3 hown3 hgr3 hat3; have hge := zg4 HO1.out; have hx := zg w1 (.cells #[str (zi (f i))] 28); have HW3 : Hid (Below w.heap.size w w3) := ze ((ext HW1.out hx).grown hgr3 (ext HW1.out hx).size (fun k hk => hge k hk))
    have HO3 : Hid (w3.ownsRow w.heap.size 28 1 v3 (i + 1) ((List.range (i + 1)).map fun i => str (zi (f i)))) := by
     rw [za3]; exact hown3
    clear hown3 hgr3 hat3 hge hx hrd h1c HO1 HW1; go_wp2_with fail; go_roundw
    case rel => exact ⟨i + 1, by omega, by go_num, HO3, HW3⟩
    case measure => simp [intOf]; omega
  . obtain rfl : n = i := by omega
    obtain ⟨A', c', rfl, hcap', hr⟩ := za9 HO.out; have HR := ze hr; have HCP := ze hcap'; clear hr hcap'; go_wp2_with fail; go_ret; exact ⟨_, _, rfl, HCP.out, HR.out, HW.out⟩
def NmbR (cs : List (List UInt8)) (w : World) (ov iv : Value) (wr : World) : Prop :=
 ∃ i : Nat, i <= cs.length /\ iv = .int .i64 i /\ Hid (∀ j, j < i -> (zl (cs.getD j [])).isSome = true) /\ Hid (Z9 wr w.heap.size ov i (yl cs)) /\ Hid (Below w.heap.size w wr)
def ztk (cs : List (List UInt8)) (w : World) (e : Ending) (w' : World) : Prop :=
 Below w.heap.size w w' /\ (((∃ j, j < cs.length /\ (zl (cs.getD j [])).isSome = false) /\ e = .returned (.tuple #[.slice none 0 0, .bool false])) \/
  ((∀ j, j < cs.length -> (zl (cs.getD j [])).isSome = true) /\ ∃ v, e = .returned (.tuple #[v, .bool true]) /\ Zv w' v cs.length (yl cs)))
theorem zky (v : Value) (cs : List (List UInt8)) (w : World) (hc : yJ w v cs) :
 Calls Tryz.prog 54 #[v] w (ztk cs w) := by
 have HCN := ze hc
 obtain ⟨Ac, cc, rfl, hcc, hcm, h1000, hcr, hsm⟩ := hc
 have HSM := ze hsm
 clear hcc hcm hcr hsm
 unfold ztk
 go_enter Tryz.func54, Tryz.ntmps54
 go_wp2_with fail
 go_loopw [4, 5] (NmbR cs w) (fun _ iv _ => cs.length - (intOf iv).toNat)
 case atStart => exact ⟨0, Nat.zero_le _, rfl, fun j h => by omega, Z9.nil _ _ _, zF _⟩
 case round =>
  obtain ⟨i, hi, rfl, HD, HO, HW⟩ := hrel
  by_cases hil : i < cs.length
  . have hii : (i : Int) < (cs.length : Int) := by omega
    obtain ⟨ac, e2, lc, qc⟩ := zkq (HCN.out.below HW.out) hil; subst e2; have hci : zO cs[i] := HSM.out _ (List.getElem_mem hil); have hge : cs.getD i [] = cs[i] := by simp [List.getD, List.getElem?_eq_getElem hil]
    have h1 := fun w => zak ⟨(cs[i]).toArray⟩ w (yO hci)
    rw [yn] at h1; have HGE := ze hge; clear hge hci; go_wp2_with fail; refine (h1 _).mono ?_; rintro e w1 ⟨v, b, rfl, ⟨ng, X, n1, c8, Y, n2, c9, rfl⟩, hb, hq, hb1⟩; have hx := zg w1 (.cells #[.bool ng, .slice X n1 c8, .slice Y n2 c9] 80); have HO1 := ze (HO.out.below (ext hb1 hx)); have HW1 := ze (ext HW.out (ext hb1 hx)); have HK1 := ze (Blk.new w1 80 #[.bool ng, .slice X n1 c8, .slice Y n2 c9]); have HQ : Hid (∀ q, zl cs[i] = some q -> xu (w1.alloc (.cells #[.bool ng, .slice X n1 c8, .slice Y n2 c9] 80)) (.agg #[.bool ng, .slice X n1 c8, .slice Y n2 c9]) q) := fun q h => (hq q h).below hx
    have HBB := ze hb; clear HO HW lc qc hb1 h1 hx hq hb
    cases b with
    | false =>
      have HFI : Hid (∃ j, j < cs.length /\ (zl (cs.getD j [])).isSome = false) := ⟨i, hil, by rw [HGE.out]; exact HBB.out.symm⟩; go_wp2_with fail; go_ret2; exact ⟨HW1.out, .inl ⟨HFI.out, rfl⟩⟩
    | true =>
      obtain ⟨q, hq⟩ := Option.isSome_iff_exists.1 HBB.out.symm; have HV := ze (HQ.out q hq); have HCO : Hid (yl cs i = q) := by show _ = _; unfold yl vP; rw [HGE.out, hq]; rfl
      have HSI : Hid ((zl (cs.getD i [])).isSome = true) := by show _ = _; rw [HGE.out, hq]; rfl
      clear hq HQ HBB HGE
      go_upto_region 8 with fail
      generalize w1.alloc (.cells #[.bool ng, .slice X n1 c8, .slice Y n2 c9] 80) = W2 at HO1 HW1 HK1 HV |-; generalize w1.heap.size = gb at HK1 |-; have r0 := HK1.out.cell 0; have r1 := HK1.out.cell 1; have r2 := HK1.out.cell 2; simp at r0 r1 r2; have hx := zg W2 (.cells #[.bool ng, .slice X n1 c8, .slice Y n2 c9] 80); have HO2 := ze (HO1.out.below hx); have HW2 := ze (ext HW1.out hx); have HV2 := ze (HV.out.below hx); have HN2 := ze (Blk.new W2 80 #[.bool ng, .slice X n1 c8, .slice Y n2 c9]); clear hx HO1 HW1 HV HK1; go_wp2_with (at_builtin; go_loud (refine Z1 rfl (.tmp 24) (.tmp 26) rfl w.heap.size _ i (yl cs) (yl cs) rfl HO2.out W2.heap.size 1 rfl HN2.out HV2.out (by omega) HW2.out.size (fun _ _ => rfl) HCO.out ?_)); intro v5 w5 hO5 hc5 hg5; have HO5 := ze hO5; have HW5 := ze (HW2.out.trans (hc5.below HW2.out.size (fun b e => (hg5 b e).1))); clear hO5 hc5 hg5 HO2 HW2 HN2 HV2 r0 r1 r2; go_wp2_with fail; go_roundw
      case rel =>
       refine ⟨i + 1, by omega, by go_num, fun j hj => ?_, HO5, HW5⟩
       rcases Nat.lt_or_ge j i with h | h
       . exact HD.out j h
       . obtain rfl : j = i := by omega
         exact HSI.out
      case measure => simp [intOf]; omega
  . obtain rfl : i = cs.length := by omega
    have HDD := ze HD.out; go_wp2_with fail; go_ret2; exact ⟨HW.out, .inr ⟨HDD.out, _, rfl, HO.out.nums⟩⟩
def SmeR (n : Nat) (f g : Nat -> Rat) (w : World) (iv : Value) (wr : World) : Prop :=
 ∃ i : Nat, i <= n /\ iv = .int .i64 i /\ Hid (∀ j, j < i -> f j = g j) /\ Hid (Below w.heap.size w wr)
theorem zhf {x y : Rat} : (x - y).num.sign = 0 ↔ x = y := by
 rw [Int.sign_eq_zero_iff_zero, Rat.num_eq_zero]
 constructor <;> intro h <;> grind
open Classical in
theorem zrw (va vb : Value) (n : Nat) (f g : Nat -> Rat) (w : World) (ha : Zv w va n f) (hb : Zv w vb n g) (hf : ∀ k, k < n -> Xq 8388608 (f k)) (hg : ∀ k, k < n -> Xq 8388608 (g k)) (h1000 : n <= 1000) :
 Calls Tryz.prog 55 #[va, vb] w (vB w (.bool (decide (∀ k, k < n -> f k = g k)))) := by
 have HA := ze ha
 have HB := ze hb
 have HF := ze hf
 have HG := ze hg
 obtain ⟨A, ca, rfl, hca, hcm, _⟩ := ha
 obtain ⟨B, cb, rfl, hcb, hcn, _⟩ := hb
 obtain ⟨r, HR⟩ : ∃ r, Hid (decide (∀ k, k < n -> f k = g k) = r) := ⟨_, ze rfl⟩
 rw [HR.out]
 clear hf hg
 go_enter Tryz.func55, Tryz.ntmps55
 go_wp2_with fail
 go_loopw [5] (SmeR n f g w) (fun iv _ => n - (intOf iv).toNat)
 case atStart => exact ⟨0, Nat.zero_le _, rfl, fun j h => by omega, zF _⟩
 case round =>
  obtain ⟨i, hi, rfl, HD, HW⟩ := hrel
  by_cases hil : i < n
  . have hii : (i : Int) < (n : Int) := by omega
    obtain ⟨ga, eA, lA, na, Xa, xa, ya, Za, za, ta, a0, a1, a2, hra⟩ := (HA.out.below HW.out).at_ hil; obtain ⟨gb, eB, lB, nb, Xb, xb, yb, Zb, zb, tb, b0, b1, b2, hrb⟩ := (HB.out.below HW.out).at_ hil; subst eA eB; have ho := fun t : zb8 wr => zab _ _ _ _ (grown wr t) (hra.below t.below) (hrb.below t.below) (HF.out i hil) (HG.out i hil)
    by_cases he : f i = g i
    . rw [zhf.2 he] at ho
      have HE := ze he; clear he hra hrb; go_wp2_with fail; have a0g := z8 lA a0; have a1g := z8 lA a1; have a2g := z8 lA a2; have b0g := z8 lB b0; have b1g := z8 lB b1; have b2g := z8 lB b2; refine Yj (by kernel_rfl) (by kernel_rfl) ?_
      repeat (quiet_step (first | (go_at_call 65; exact yQ (ho _))))
      refine wpQuiet_nil ?_; rintro w9 ⟨t9, rfl⟩; clear a0g a1g a2g b0g b1g b2g; have hbB := yy wr t9; replace HW := eb_ HW hbB; generalize grown wr t9 = WN at hbB HW |-; clear t9; clear ho hbB a0 a1 a2 b0 b1 b2 lA lB; go_wp2_with fail; go_round
      case rel =>
       refine ⟨i + 1, by omega, by go_num, fun j hj => ?_, HW⟩
       rcases Nat.lt_or_ge j i with h | h
       . exact HD.out j h
       . obtain rfl : j = i := by omega
         exact HE.out
      case measure => simp [intOf]; omega
    . have hI : (((f i - g i).num.sign) != 0) = true := by rw [bne_iff_ne]; exact fun h => he (zhf.1 h)
      have HRF : Hid (r = false) := by
       show _ = _
       rw [<- HR.out, decide_eq_false_iff_not]; exact fun h => he (h i hil)
      generalize (f i - g i).num.sign = sg at ho hI; clear he hra hrb; go_wp2_with fail; have a0g := z8 lA a0; have a1g := z8 lA a1; have a2g := z8 lA a2; have b0g := z8 lB b0; have b1g := z8 lB b1; have b2g := z8 lB b2; refine Yj (by kernel_rfl) (by kernel_rfl) ?_
      repeat (quiet_step (first | (go_at_call 65; exact yQ (ho _))))
      refine wpQuiet_nil ?_; rintro w9 ⟨t9, rfl⟩; clear a0g a1g a2g b0g b1g b2g; have hbB := yy wr t9; replace HW := eb_ HW hbB; generalize grown wr t9 = WN at hbB HW |-; clear t9; clear ho hbB a0 a1 a2 b0 b1 b2 lA lB; go_wp2_with fail; go_ret; exact ⟨zt HRF.out, HW.out⟩
  . obtain rfl : n = i := by omega
    have HRT : Hid (r = true) := by
     show _ = _
     rw [<- HR.out, decide_eq_true_iff]; exact HD.out
    go_wp2_with fail; go_ret; exact ⟨zt HRT.out, HW.out⟩
theorem zeb (vn : Value) (n : Net) (w : World) (hn : Zq w vn n) : Calls Tryz.prog 90 #[vn] w (ztu n.nodes.length w) := by
 obtain ⟨A0, k0, c0, A1, k1, c1, A2, k2, c2, A3, k3, c3, rfl, hn0, hn1, hn2, hn3⟩ := hn
 have hk0 : k0 = n.nodes.length := by obtain ⟨A', c', e, _⟩ := hn0; injection e
 have hb0 : k0 <= 1000 := by obtain ⟨A', c', e, _, _, h6, _⟩ := hn0; omega
 have HK0 := ze hk0
 have HW := ze (zg w (.cells #[.slice A0 k0 c0, .slice A1 k1 c1, .slice A2 k2 c2, .slice A3 k3 c3] 26))
 have HK := ze (Blk.new w 26 #[.slice A0 k0 c0, .slice A1 k1 c1, .slice A2 k2 c2, .slice A3 k3 c3])
 have hmk := fun w => zb4 .i64 k0 (by omega) w
 clear hn0 hn1 hn2 hn3 hk0
 obtain ⟨r0, r1, r2, r3, rL⟩ := yG HK.out
 go_enter Tryz.func90, Tryz.ntmps90
 go_wp2_with fail
 clear hmk r0 r1 r2 r3 rL
 have hx := zg (w.alloc (.cells #[.slice A0 k0 c0, .slice A1 k1 c1, .slice A2 k2 c2, .slice A3 k3 c3] 26)) (.cells (xZ (List.replicate k0 false)).toArray 4)
 have hbm : vG ((w.alloc (.cells #[.slice A0 k0 c0, .slice A1 k1 c1, .slice A2 k2 c2, .slice A3 k3 c3] 26)).alloc (.cells (xZ (List.replicate k0 false)).toArray 4)) (w.heap.size + 1) (List.replicate 0 true ++ List.replicate (k0 - 0) false) [] := by
  unfold vG
  rw [List.append_nil]
  have h := Blk.new (w.alloc (.cells #[.slice A0 k0 c0, .slice A1 k1 c1, .slice A2 k2 c2, .slice A3 k3 c3] 26)) 4 (xZ (List.replicate k0 false)).toArray
  simp only [World.size_alloc] at h
  exact h
 have HBM := ze hbm
 clear hbm
 replace HK := kb_ HK hx
 replace HW := eb_ HW hx
 clear hx
 generalize (w.alloc (.cells #[.slice A0 k0 c0, .slice A1 k1 c1, .slice A2 k2 c2, .slice A3 k3 c3] 26)).alloc (.cells (xZ (List.replicate k0 false)).toArray 4) = WM at HK HW HBM |-
 go_loopw [4] (WhoR k0 (w.heap.size + 1) w #[.slice A0 k0 c0, .slice A1 k1 c1, .slice A2 k2 c2, .slice A3 k3 c3]) (fun iv _ => k0 - (intOf iv).toNat)
 case atStart => exact ⟨0, Nat.zero_le _, rfl, HBM, HK, HW⟩
 case round =>
  clear HK HW HBM
  obtain ⟨i, hi, rfl, HBM, HK, HW⟩ := hrel
  by_cases hlt : i < k0
  . have hi1 : (i : Int) < (k0 : Int) := by omega
    have hal : i < (List.replicate i true ++ List.replicate (k0 - i) false).length := by simp; omega
    have c1 := HBM.out.cell hal; have f1 := HBM.out.frozen i; have l1 := HBM.out.lt; have HB2 := HBM.out.set_ hal true; rw [zqt hlt] at HB2; have HB3 := ze HB2; generalize (List.replicate i true ++ List.replicate (k0 - i) false)[i] = x at c1; clear HB2 hal; have hgn : w.heap.size ≠ w.heap.size + 1 := by omega
    go_wp2_with fail; go_round
    case rel => exact ⟨i + 1, by omega, by go_num, HB3, HK.out.far hgn _, HW.out.setCell (by simp only; omega) _⟩
    case measure => simp [intOf]; omega
  . obtain rfl : i = k0 := by omega
    go_wp2_with fail; go_ret; refine ⟨.slice (some ⟨w.heap.size + 1, 0, none⟩) i i, rfl, ⟨some ⟨w.heap.size + 1, 0, none⟩, i, by rw [List.length_replicate, HK0.out], by rw [List.length_replicate, HK0.out]; exact Nat.le_refl _, by unfold maxLen; omega, ?_⟩, HW.out⟩; have h := HBM.out.reads; rw [Nat.sub_self, List.replicate_zero, List.append_nil] at h; rw [<- HK0.out]; exact h
theorem zm1.read {l : List yI} (h : zm1 l) : ∀ v ∈ l, (zl v.value).isSome = true := by
 intro v hv
 obtain ⟨q, h1, _⟩ := vz (h v hv)
 rw [h1]; rfl
def zht (n : Net) : Nat -> Rat := fun k => (Net.at_ n.wells k).getD 0
theorem zax (vn vc : Value) (n : Net) (c : Nat -> Rat) (w : World) (hn : Zq w vn n) (hc : Zv w vc n.pipes.length c) (h5 : n.P5) (hG : xh n.nodes.length n.pipes.length n.pf n.pt c (Net.at_ n.heads) (zht n) (zfq n.nodes.length)) :
 Calls Tryz.prog 47 #[vn, vc] w (zp8 n c (Net.at_ n.heads) (zht n) (zfq n.nodes.length) w) := by
 have HNET := ze hn
 have HCN := ze hc
 have hev := fun w' (h : Below w.heap.size w w') => zeb vn n w' (hn.below h)
 obtain ⟨A0, k0, c0, A1, k1, c1, A2, k2, c2, A3, k3, c3, rfl, hn0, hn1, hn2, hn3⟩ := hn
 have hsv := fun w' vb (h : Below w.heap.size w w') (hb : ZG w' vb (List.replicate n.nodes.length true)) => zqd (.agg #[.slice A0 k0 c0, .slice A1 k1 c1, .slice A2 k2 c2, .slice A3 k3 c3]) vc (.slice A2 k2 c2) (.slice A3 k3 c3) vb n n.heads n.wells (List.replicate n.nodes.length true) c w' (HNET.out.below h) (HCN.out.below h) (hn2.below h) (hn3.below h) hb
  h5.1.levs.read h5.levs.read (by simp) h5.1.1.ends hG
 have HEV := ze hev
 have HSV := ze hsv
 have HW := ze (zg w (.cells #[.slice A0 k0 c0, .slice A1 k1 c1, .slice A2 k2 c2, .slice A3 k3 c3] 26))
 have HK := ze (Blk.new w 26 #[.slice A0 k0 c0, .slice A1 k1 c1, .slice A2 k2 c2, .slice A3 k3 c3])
 clear hn0 hn1 hn2 hn3 hev hsv h5 hG hc
 go_enter Tryz.func47, Tryz.ntmps47
 go_upto_region 1 with fail
 generalize w.alloc (.cells #[.slice A0 k0 c0, .slice A1 k1 c1, .slice A2 k2 c2, .slice A3 k3 c3] 26) = WN at HW HK |-
 obtain ⟨r0, r1, r2, r3, rL⟩ := yG HK.out
 refine yq (S := fun w' => Hid (Below WN.heap.size WN w') /\ w'.cell? ⟨w.heap.size, 0, none⟩ = some (.slice A0 k0 c0) /\ w'.cell? ⟨w.heap.size, 1, none⟩ = some (.slice A1 k1 c1) /\ w'.cell? ⟨w.heap.size, 2, none⟩ = some (.slice A2 k2 c2) /\ w'.cell? ⟨w.heap.size, 3, none⟩ = some (.slice A3 k3 c3)) 7 2 9 rfl (by kernel_rfl) (by kernel_rfl) (by kernel_rfl) rfl (zU (zK WN) (fun hB => ⟨zr hB rL r0, zr hB rL r1, zr hB rL r2, zr hB rL r3⟩)) ?_ (fun hHeld => ?_)
 . intro _ _ _ _ _ h9; exact h9
 simp only [List.take_succ_cons, List.take_zero]
 iterate 7 (refine vq (v := ?_) ?_ ?_; rotate_left; (focus (as_aux_lemma => (intro w9 hSw; (try dsimp only at hSw); go_split_ands; go_simp; try with_reducible rfl))); try simp only [Act.put, List.setIfInBounds_toArray, List.set_cons_zero, List.set_cons_succ])
 refine vZ ?_
 refine HH.ready (rs := [7]) (by kernel_rfl) (by simp) (by kernel_rfl) ?_
 refine xP.cons (o := _) rfl (fun K hK => ?_) xP.nil
 go_simp
 go_at_call 90
 refine (HEV.out _ (ext HW.out (zK WN).out)).mono ?_
 rintro e w1 ⟨v1, rfl, hv1, hb1⟩
 have HV := ze hv1
 clear hv1
 have hH0 := hHeld
 clear hHeld
 refine hK.out _ _ (zU (z7 hb1 hH0.1) (fun hB => ⟨zr hB rL r0, zr hB rL r1, zr hB rL r2, zr hB rL r3⟩)) (fun hHeld => ?_)
 clear hH0 hK K
 try simp only [Act.put, List.setIfInBounds_toArray, List.set_cons_zero, List.set_cons_succ]
 refine HH.ready (rs := [8]) (by kernel_rfl) (by simp) (by kernel_rfl) ?_
 refine xP.cons (o := _) rfl (fun K hK => ?_) xP.nil
 go_simp
 go_at_call 59
 refine (HSV.out _ _ (ext HW.out hHeld.1.out) HV.out).mono ?_
 rintro e w2 ⟨v2, h2, rfl, hv2, his, hdz, hb2⟩
 have HV2 := ze hv2
 have HIS := ze his
 have HDZ := ze hdz
 clear hv2 his hdz
 have hH0 := hHeld
 clear hHeld
 refine hK.out _ _ (zU (z7 hb2 hH0.1) (fun hB => ⟨zr hB rL r0, zr hB rL r1, zr hB rL r2, zr hB rL r3⟩)) (fun hHeld => ?_)
 clear hH0 hK K
 try simp only [Act.put, List.setIfInBounds_toArray, List.set_cons_zero, List.set_cons_succ]
 have HBY := (hHeld.1).out
 try clear r0 r1 r2 r3 rL
 replace HK := kb_ HK HBY
 replace HW := eb_ HW HBY
 clear HBY hHeld
 refine HH.done (by kernel_rfl) ?_
 simp only [List.drop_succ_cons, List.drop_zero]
 obtain ⟨r0, r1, r2, r3, rL⟩ := yG HK.out
 go_wp2_with fail
 go_ret
 exact ⟨_, _, rfl, HV2.out, HIS.out, HDZ.out, HW.out⟩
def VT (n : Net) (cs : List (List UInt8)) (w : World) (e : Ending) (w' : World) : Prop :=
 Below w.heap.size w w' /\ ((yL n cs ≠ 0 /\ e = .returned (.tuple #[.slice none 0 0, .int .i64 (yL n cs)])) \/
  (yL n cs = 0 /\ ∃ (A : Option Addr) (cap : Nat) (h : Nat -> Rat), e = .returned (.tuple #[.slice A n.nodes.length cap, .int .i64 0]) /\ vT n cs h /\
    zD w' w'.heap.size 1 A n.nodes.length (row n.nodes.length fun k => str (zi (h k)))))
theorem zmh {q : Rat} (h : Dz zm0 q) {M : Nat} (hM : 60000 < 9 * M) : Xq M q := YR h (by rw [zgv]; exact hM)
theorem VH {n : Net} (h : n.err = 0) : n.nodes.length <= 24 /\ n.pipes.length <= 48 := by
 have h5 := (Net.err_zero h).1
 have h1 := h5.1.1.1.1.1
 have h2 := h5.1.1.2.1
 omega
theorem zqu (vn vc : Value) (n : Net) (cs : List (List UInt8)) (w : World) (hn : Zq w vn n) (hc : yJ w vc cs) (hsz : n.err = 0 -> n.nodes.length <= 6 /\ n.pipes.length <= 9) :
 Calls Tryz.prog 15 #[vn, vc] w (VT n cs w) := by
 have HNET := ze hn
 have HCN := ze hc
 have HSZ := ze hsz
 obtain ⟨A0, k0, c0, A1, k1, c1, A2, k2, c2, A3, k3, c3, rfl, hn0, hn1, hn2, hn3⟩ := hn
 have hck := fun w' (h : Below w.heap.size w w') => zcg (.agg #[.slice A0 k0 c0, .slice A1 k1 c1, .slice A2 k2 c2, .slice A3 k3 c3]) n w' (HNET.out.below h)
 have hcd := fun w' (h : Below w.heap.size w w') => zf1 (.agg #[.slice A0 k0 c0, .slice A1 k1 c1, .slice A2 k2 c2, .slice A3 k3 c3]) vc n cs w' (HNET.out.below h) (HCN.out.below h)
 obtain ⟨ev, HEV⟩ : ∃ ev, Hid (n.err = ev) := ⟨_, ze rfl⟩
 obtain ⟨cv, HCV⟩ : ∃ cv, Hid (yV n cs = cv) := ⟨_, ze rfl⟩
 have HASK : Hid (yL n cs = if ev ≠ 0 then ev else cv) := by show _ = _; unfold yL; rw [HEV.out, HCV.out]
 rw [HEV.out] at hck
 unfold zdz at hcd
 rw [HCV.out] at hcd
 have HCK := ze hck
 have HCD := ze hcd
 have HP1 := ze hn1
 have HP0 := ze hn0
 have HW := ze (zg w (.cells #[.slice A0 k0 c0, .slice A1 k1 c1, .slice A2 k2 c2, .slice A3 k3 c3] 26))
 have HK := ze (Blk.new w 26 #[.slice A0 k0 c0, .slice A1 k1 c1, .slice A2 k2 c2, .slice A3 k3 c3])
 clear hn0 hn1 hn2 hn3 hck hcd hsz hc
 obtain ⟨r0, r1, r2, r3, rL⟩ := yG HK.out
 unfold VT
 obtain ⟨x, HX⟩ : ∃ x, Hid (yL n cs = x) := ⟨_, ze rfl⟩
 rw [HX.out]
 rw [HX.out] at HASK
 go_enter Tryz.func15, Tryz.ntmps15
 go_wp2_with fail
 refine (HCK.out _ HW.out).mono ?_
 rintro e WN ⟨rfl, hbB⟩
 try clear r0 r1 r2 r3 rL
 replace HK := kb_ HK hbB
 replace HW := eb_ HW hbB
 clear hbB
 obtain ⟨r0, r1, r2, r3, rL⟩ := yG HK.out
 by_cases h0 : ev = 0
 . subst h0
   have HASK2 : Hid (x = cv) := ze (by have := HASK.out; rw [if_neg (by decide)] at this; exact this); clear HASK; go_wp2_with fail; refine (HCD.out _ HW.out).mono ?_; rintro e w2 ⟨hb2, hor⟩; clear r0 r1 r2 r3 rL; replace HK := kb_ HK hb2; replace HW := eb_ HW hb2; clear hb2
   rcases hor with ⟨hne, rfl⟩ | ⟨h0, v, rfl, hv⟩
   . have hI : (cv != 0) = true := by rw [bne_iff_ne]; exact hne
     have HNE := ze hne; clear hne; go_wp2_with fail; go_ret2; have h9 := HASK2.out; subst h9; exact ⟨HW.out, .inl ⟨HNE.out, rfl⟩⟩
   . subst h0
     have HN0 : Hid (n.err = 0) := ze (by rw [HEV.out]); have HC0 : Hid (yV n cs = 0) := ze (by rw [HCV.out]); have HG : Hid (xh n.nodes.length n.pipes.length n.pf n.pt (yl cs) (Net.at_ n.heads) (zht n) (zfq n.nodes.length)) := XX HN0.out HC0.out (HSZ.out HN0.out).1 (HSZ.out HN0.out).2; have HP5 := ze (Net.err_zero HN0.out).1; have HSM := ze (VH HN0.out); have hsd := fun w' (h : Below w.heap.size w w') (hv : Zv w' v n.pipes.length (yl cs)) => zax (.agg #[.slice A0 k0 c0, .slice A1 k1 c1, .slice A2 k2 c2, .slice A3 k3 c3]) v n (yl cs) w' (HNET.out.below h) hv HP5.out HG.out
     have HV := ze hv; clear hv; obtain ⟨r0, r1, r2, r3, rL⟩ := yG HK.out; go_wp2_with fail; refine (hsd _ HW.out HV.out).mono ?_; rintro e w3 ⟨v3, h3, rfl, hv3, his, hdz, hb3⟩; clear r0 r1 r2 r3 rL hsd; replace HK := kb_ HK hb3; replace HW := eb_ HW hb3; have HIS := ze his; have ht := zix v3 n.nodes.length h3 w3 hv3 (fun k hk => zmh (hdz k hk) (by omega)) (by have := HSM.out.1; omega); clear hb3 his hdz hv3; go_wp2_with fail; refine ht.mono ?_; rintro e w4 ⟨A9, cap9, rfl, hcap, hrd, hb4⟩; replace HK := kb_ HK hb4; replace HW := eb_ HW hb4; have HRD := ze hrd; clear hb4 hrd hcap ht; go_wp2_with fail; go_ret2; have h9 := HASK2.out; subst h9; exact ⟨HW.out, .inr ⟨rfl, A9, cap9, h3, rfl, HIS.out, HRD.out⟩⟩
 . have hI : (ev != 0) = true := by rw [bne_iff_ne]; exact h0
   have HASK2 : Hid (x = ev) := ze (by have := HASK.out; rw [if_pos h0] at this; exact this); have H0 := ze h0; clear HASK h0 HCK HCD HEV; go_wp2_with fail; go_ret2; have h9 := HASK2.out; subst h9; exact ⟨HW.out, .inl ⟨H0.out, rfl⟩⟩
def RfwR (n : Net) (cs : List (List UInt8)) (h : Nat -> Rat) (W : World) (ov iv : Value) (wr : World) : Prop :=
 ∃ i : Nat, i <= n.pipes.length /\ iv = .int .i64 i /\ Hid (Z9 wr W.heap.size ov i (Yb n cs h)) /\ Hid (Below W.heap.size W wr)
theorem zul {c x y : Rat} (hc : Dz 12 c) (hx : Dz zm0 x) (hy : Dz zm0 y) : Dz (12 + (zm0 + zm0 + 1)) (c * (x - y)) := Dz.mul hc (Dz.sub hx hy (Nat.le_refl _)) (Nat.le_refl _)
theorem zvs {q : Rat} {M : Nat} (h : Dz (12 + (zm0 + zm0 + 1)) q) (hM : 120013 < 9 * M) : Xq M q := YR h (by rw [zgv]; omega)
theorem zvu {q : Rat} {M : Nat} (h : Dz (zm0 + zm0 + 1) q) (hM : 120001 < 9 * M) : Xq M q := YR h (by rw [zgv]; omega)
theorem zpw (vn vc : Value) (n : Net) (cs : List (List UInt8)) (w : World) (hn : Zq w vn n) (hc : yJ w vc cs) (hsz : n.err = 0 -> n.nodes.length <= 6 /\ n.pipes.length <= 9) :
 Calls Tryz.prog 18 #[vn, vc] w (YQ n cs w) := by
 have HNET := ze hn
 have HCN := ze hc
 have HSZ := ze hsz
 obtain ⟨A0, k0, c0, A1, k1, c1, A2, k2, c2, A3, k3, c3, rfl, hn0, hn1, hn2, hn3⟩ := hn
 have hck := fun w' (h : Below w.heap.size w w') => zcg (.agg #[.slice A0 k0 c0, .slice A1 k1 c1, .slice A2 k2 c2, .slice A3 k3 c3]) n w' (HNET.out.below h)
 have hcd := fun w' (h : Below w.heap.size w w') => zf1 (.agg #[.slice A0 k0 c0, .slice A1 k1 c1, .slice A2 k2 c2, .slice A3 k3 c3]) vc n cs w' (HNET.out.below h) (HCN.out.below h)
 obtain ⟨ev, HEV⟩ : ∃ ev, Hid (n.err = ev) := ⟨_, ze rfl⟩
 obtain ⟨cv, HCV⟩ : ∃ cv, Hid (yV n cs = cv) := ⟨_, ze rfl⟩
 have HASK : Hid (yL n cs = if ev ≠ 0 then ev else cv) := by show _ = _; unfold yL; rw [HEV.out, HCV.out]
 rw [HEV.out] at hck
 unfold zdz at hcd
 rw [HCV.out] at hcd
 have HCK := ze hck
 have HCD := ze hcd
 have HP1 := ze hn1
 have HP0 := ze hn0
 have HW := ze (zg w (.cells #[.slice A0 k0 c0, .slice A1 k1 c1, .slice A2 k2 c2, .slice A3 k3 c3] 26))
 have HK := ze (Blk.new w 26 #[.slice A0 k0 c0, .slice A1 k1 c1, .slice A2 k2 c2, .slice A3 k3 c3])
 clear hn0 hn1 hn2 hn3 hck hcd hsz hc
 obtain ⟨r0, r1, r2, r3, rL⟩ := yG HK.out
 unfold YQ
 have hk1 : k1 = n.pipes.length := by obtain ⟨A', c', e, _⟩ := HP1.out; injection e
 have HPP := ze hk1
 obtain ⟨x, HX⟩ : ∃ x, Hid (yL n cs = x) := ⟨_, ze rfl⟩
 rw [HX.out]
 rw [HX.out] at HASK
 clear hk1
 go_enter Tryz.func18, Tryz.ntmps18
 go_wp2_with fail
 refine (HCK.out _ HW.out).mono ?_
 rintro e WN ⟨rfl, hbB⟩
 try clear r0 r1 r2 r3 rL
 replace HK := kb_ HK hbB
 replace HW := eb_ HW hbB
 clear hbB
 obtain ⟨r0, r1, r2, r3, rL⟩ := yG HK.out
 by_cases h0 : ev = 0
 . subst h0
   have HASK2 : Hid (x = cv) := ze (by have := HASK.out; rw [if_neg (by decide)] at this; exact this); clear HASK; go_wp2_with fail; refine (HCD.out _ HW.out).mono ?_; rintro e w2 ⟨hb2, hor⟩; clear r0 r1 r2 r3 rL; replace HK := kb_ HK hb2; replace HW := eb_ HW hb2; clear hb2
   rcases hor with ⟨hne, rfl⟩ | ⟨h0, v, rfl, hv⟩
   . have hI : (cv != 0) = true := by rw [bne_iff_ne]; exact hne
     have HNE := ze hne; clear hne; go_wp2_with fail; go_ret2; have h9 := HASK2.out; subst h9; exact ⟨HW.out, .inl ⟨HNE.out, rfl⟩⟩
   . subst h0
     have HN0 : Hid (n.err = 0) := ze (by rw [HEV.out]); have HC0 : Hid (yV n cs = 0) := ze (by rw [HCV.out]); have HG : Hid (xh n.nodes.length n.pipes.length n.pf n.pt (yl cs) (Net.at_ n.heads) (zht n) (zfq n.nodes.length)) := XX HN0.out HC0.out (HSZ.out HN0.out).1 (HSZ.out HN0.out).2; have HP5 := ze (Net.err_zero HN0.out).1; have HSM := ze (VH HN0.out); have hsd := fun w' (h : Below w.heap.size w w') (hv : Zv w' v n.pipes.length (yl cs)) => zax (.agg #[.slice A0 k0 c0, .slice A1 k1 c1, .slice A2 k2 c2, .slice A3 k3 c3]) v n (yl cs) w' (HNET.out.below h) hv HP5.out HG.out
     have HV := ze hv; clear hv; obtain ⟨r0, r1, r2, r3, rL⟩ := yG HK.out; obtain ⟨AV, capV, hve, _⟩ := HV.out; subst hve; go_wp2_with fail; refine (hsd _ HW.out HV.out).mono ?_; rintro e w3 ⟨v3, h3, rfl, hv3, his, hdz, hb3⟩; clear r0 r1 r2 r3 rL hsd; replace HK := kb_ HK hb3; replace HW := eb_ HW hb3; have HV1 := ze (HV.out.below hb3); have HIS := ze his; have HDZ := ze hdz; have HHN := ze hv3; obtain ⟨AH, capH, hhe, _⟩ := HHN.out; subst hhe; have HEND := ze HP5.out.1.1.ends; have HP3 := ze (HP1.out.below HW.out); clear hb3 his hdz hv3 HV HCK HCD; go_wp2_with fail
     go_loopw [10, 11] (RfwR n cs h3 w3) (fun _ iv _ => n.pipes.length - (intOf iv).toNat)
     case atStart => exact ⟨0, Nat.zero_le _, rfl, Z9.nil _ _ _, zF _⟩
     case round =>
      obtain ⟨i, hi, rfl, HO, HB⟩ := hrel; have HKR := ze (HK.out.below HB.out HK.out.lt); obtain ⟨r0, r1, r2, r3, rL⟩ := yG HKR.out; have hb48 := HSM.out.2
      by_cases hil : i < n.pipes.length
      . have hii : (i : Int) < (n.pipes.length : Int) := by omega
        have hik : (i : Int) < (k1 : Int) := by have := HPP.out; omega
        obtain ⟨ad, e1, hb, p0, p1, p2, p3, p4⟩ := (HP3.out.below HB.out).at_ hil; subst e1; obtain ⟨hf1, hf2, ht1, ht2⟩ := HEND.out i hil; rw [hf1] at p1; rw [ht1] at p2; obtain ⟨gc, eC, lC, nc, Xc, xc, yc, Zc, zc, tc, c0', c1', c2', hrc⟩ := (HV1.out.below HB.out).at_ hil; subst eC; obtain ⟨gh, eH, lH, na, Xa, xa, ya, Za, za, ta, a0, a1, a2, hra⟩ := (HHN.out.below HB.out).at_ hf2; subst eH; obtain ⟨gh', eH, _, nb, Xb, xb, yb, Zb, zb, tb, b0, b1, b2, hrb⟩ := (HHN.out.below HB.out).at_ ht2; injection eH with eH
        injection eH with eH
        subst eH; have hfi : ((n.pf i : Nat) : Int) < (n.nodes.length : Int) := by omega
        have hti : ((n.pt i : Nat) : Int) < (n.nodes.length : Int) := by omega
        have HRC := ze hrc; have HRA := ze hra; have HRB := ze hrb; have HD1 := ze (zmh (HDZ.out _ hf2) (M := 8388608) (by omega)); have HD2 := ze (zmh (HDZ.out _ ht2) (M := 8388608) (by omega)); have HD3 := ze (zvu (M := 8388608) (Dz.sub (HDZ.out _ hf2) (HDZ.out _ ht2) (Nat.le_refl _)) (by omega)); have HD4 := ze (HG.out.c_nl hil); clear hrc hra hrb hf1 ht1 p0 p3 p4
        go_upto_region 12 with fail
        refine yq (S := fun w' => Hid (Below wr.heap.size wr w') /\ w'.cell? ⟨w.heap.size, 1, none⟩ = some (.slice (some ad) k1 c1) /\ w'.cell? ⟨(ad.add (i * 5)).block, (ad.add (i * 5)).off + 1, none⟩ = some (.int .i64 (n.pf i : Int)) /\ w'.cell? ⟨(ad.add (i * 5)).block, (ad.add (i * 5)).off + 2, none⟩ = some (.int .i64 (n.pt i : Int)) /\ w'.cell? ⟨gc, i * 3, none⟩ = some (.bool nc) /\ w'.cell? ⟨gc, i * 3 + 1, none⟩ = some (.slice Xc xc yc) /\ w'.cell? ⟨gc, i * 3 + 2, none⟩ = some (.slice Zc zc tc) /\ w'.cell? ⟨gh, n.pf i * 3, none⟩ = some (.bool na) /\ w'.cell? ⟨gh, n.pf i * 3 + 1, none⟩ = some (.slice Xa xa ya) /\ w'.cell? ⟨gh, n.pf i * 3 + 2, none⟩ = some (.slice Za za ta) /\ w'.cell? ⟨gh, n.pt i * 3, none⟩ = some (.bool nb) /\ w'.cell? ⟨gh, n.pt i * 3 + 1, none⟩ = some (.slice Xb xb yb) /\ w'.cell? ⟨gh, n.pt i * 3 + 2, none⟩ = some (.slice Zb zb tb)) 23 3 26 rfl (by kernel_rfl) (by kernel_rfl) (by kernel_rfl) rfl (zU (zK wr) (fun hB => ⟨zr hB rL r1, zbv hB hb p1, zbv hB hb p2, zr hB lC c0', zr hB lC c1', zr hB lC c2', zr hB lH a0, zr hB lH a1, zr hB lH a2, zr hB lH b0, zr hB lH b1, zr hB lH b2⟩)) ?_ (fun hHeld => ?_)
        . intro _ _ _ _ _ h9; exact h9
        simp only [List.take_succ_cons, List.take_zero]
        iterate 23 (refine vq (v := ?_) ?_ ?_; rotate_left; (focus (as_aux_lemma => (intro w9 hSw; (try dsimp only at hSw); go_split_ands; go_simp; try with_reducible rfl))); try simp only [Act.put, List.setIfInBounds_toArray, List.set_cons_zero, List.set_cons_succ])
        refine vZ ?_; refine HH.ready (rs := [23]) (by kernel_rfl) (by simp) (by kernel_rfl) ?_; refine xP.cons (o := _) rfl (fun K hK => ?_) xP.nil
        go_simp
        go_at_call 49; refine (zft _ _ _ _ _ (HRA.out.below (zK wr).out) (HRB.out.below (zK wr).out) HD1.out HD2.out).mono ?_; rintro e w5 ⟨v5, rfl, hv5, hb5⟩; have HV5 := ze hv5; clear hv5; have hH0 := hHeld; clear hHeld; refine hK.out _ _ (zU (z7 hb5 hH0.1) (fun hB => ⟨zr hB rL r1, zbv hB hb p1, zbv hB hb p2, zr hB lC c0', zr hB lC c1', zr hB lC c2', zr hB lH a0, zr hB lH a1, zr hB lH a2, zr hB lH b0, zr hB lH b1, zr hB lH b2⟩)) (fun hHeld => ?_); clear hH0 hK K
        try simp only [Act.put, List.setIfInBounds_toArray, List.set_cons_zero, List.set_cons_succ]
        refine HH.ready (rs := [24]) (by kernel_rfl) (by simp) (by kernel_rfl) ?_; refine xP.cons (o := _) rfl (fun K hK => ?_) xP.nil
        go_simp
        go_at_call 48; refine (VG _ _ _ _ _ (HRC.out.below hHeld.1.out) HV5.out HD4.out HD3.out).mono ?_; rintro e w6 ⟨v6, rfl, hv6, hb6⟩; have HV6 := ze hv6; have HB6 := ze (HB.out.trans ((z7 hb6 hHeld.1).out.mono HB.out.size)); clear hv6; obtain ⟨ng, X, n1, c8, Y, n2, c9, rfl, hv0⟩ := HV6.out; clear hv0; have hH0 := hHeld; clear hHeld; refine hK.out _ _ (zU (z7 hb6 hH0.1) (fun hB => ⟨zr hB rL r1, zbv hB hb p1, zbv hB hb p2, zr hB lC c0', zr hB lC c1', zr hB lC c2', zr hB lH a0, zr hB lH a1, zr hB lH a2, zr hB lH b0, zr hB lH b1, zr hB lH b2⟩)) (fun hHeld => ?_); clear hH0 hK K
        try simp only [Act.put, List.setIfInBounds_toArray, List.set_cons_zero, List.set_cons_succ]
        refine HH.ready (rs := [25]) (by kernel_rfl) (by simp) (by kernel_rfl) ?_; refine xP.cons (o := _) rfl (fun K hK => ?_) xP.nil
        go_simp
        have hH0 := hHeld; clear hHeld; refine hK.out _ _ (zU (Z8 hH0.1) (fun hB => ⟨zr hB rL r1, zbv hB hb p1, zbv hB hb p2, zr hB lC c0', zr hB lC c1', zr hB lC c2', zr hB lH a0, zr hB lH a1, zr hB lH a2, zr hB lH b0, zr hB lH b1, zr hB lH b2⟩)) (fun hHeld => ?_); clear hH0 hK K
        try simp only [Act.put, List.setIfInBounds_toArray, List.set_cons_zero, List.set_cons_succ]
        have HBY := (hHeld.1).out; replace HO := ze (Z9.below HO.out HBY); clear HBY hHeld; refine HH.done (by kernel_rfl) ?_; simp only [List.drop_succ_cons, List.drop_zero]; clear HRC HRA HRB a0 a1 a2 b0 b1 b2 c0' c1' c2' lC lH p1 p2 hb r0 r1 r2 r3 rL HD1 HD2 HD3 HD4 hb5 hb6 HV5 HKR; have hx := zg w6 (.cells #[.bool ng, .slice X n1 c8, .slice Y n2 c9] 80); have HVX := ze (HV6.out.below hx); have HNX := ze (Blk.new w6 80 #[.bool ng, .slice X n1 c8, .slice Y n2 c9]); have HBX := ze (HB6.out.trans (hx.mono HB6.out.size)); clear hx HV6 HB6; go_wp2_with (at_builtin; go_loud (refine Z1 rfl (.tmp 35) (.tmp 60) rfl w3.heap.size _ i (Yb n cs h3) (Yb n cs h3) rfl HO.out w6.heap.size 1 rfl HNX.out HVX.out (by have := HSM.out.2; omega) HBX.out.size (fun _ _ => rfl) rfl ?_)); intro v5 w5 hO5 hc5 hg5; have HO5 := ze hO5; have HB5 := ze (HBX.out.trans (hc5.below HBX.out.size (fun b e => (hg5 b e).1))); clear hO5 hc5 hg5 HO HBX HNX HVX HB; go_wp2_with fail; go_roundw
        case rel => exact ⟨i + 1, hil, by go_num, HO5, HB5⟩
        case measure => simp [intOf]; omega
      . obtain rfl : i = n.pipes.length := by omega
        have ht := zix _ n.pipes.length (Yb n cs h3) wr HO.out.nums (fun k hk => by
         have := HEND.out k hk
         exact zvs (zul (HG.out.cd k hk) (HDZ.out _ this.2.1) (HDZ.out _ this.2.2.2)) (by omega)) (by have := HSM.out.2; omega)
        have HWR := ze (HW.out.trans (HB.out.mono HW.out.size)); go_wp2_with fail; refine ht.mono ?_; rintro e w4 ⟨A9, cap9, rfl, hcap, hrd, hb4⟩; have HW4 := ze (ext HWR.out hb4); have HRD := ze hrd; have HCP := ze hcap; clear hb4 hrd hcap ht; go_wp2_with fail; go_ret2; have h9 := HASK2.out; subst h9; exact ⟨HW4.out, .inr ⟨rfl, A9, cap9, h3, rfl, HCP.out, HIS.out, HRD.out⟩⟩
 . have hI : (ev != 0) = true := by rw [bne_iff_ne]; exact h0
   have HASK2 : Hid (x = ev) := ze (by have := HASK.out; rw [if_pos h0] at this; exact this); have H0 := ze h0; clear HASK h0 HCK HCD HEV; go_wp2_with fail; go_ret2; have h9 := HASK2.out; subst h9; exact ⟨HW.out, .inl ⟨H0.out, rfl⟩⟩
theorem zmq {n : Nat} {gs : List (List UInt8)} {h : Nat -> Rat} (hl : gs.length = n) (hr : ∀ j, j < gs.length -> (zl (gs.getD j [])).isSome = true) :
 (∀ k, k < n -> yl gs k = h k) ↔ (List.range n).map (fun k => zi (h k)) = gs := by
 have hg : ∀ k (hk : k < gs.length), gs[k] = zi (yl gs k) := by
  intro k hk
  have e : gs.getD k [] = gs[k] := by simp [List.getD, List.getElem?_eq_getElem hk]
  obtain ⟨q, hq⟩ := Option.isSome_iff_exists.1 (hr k hk)
  have e2 : yl gs k = q := by unfold yl vP; rw [hq]; rfl
  rw [e2, <- e]
  exact (yD.1 hq).1
 constructor
 . intro hk
   apply List.ext_getElem
   . simp [hl]
   . intro j h1 h2
     simp at h1; rw [hg j h2, hk j h1]
     simp
 . intro he k hk
   have h2 : k < gs.length := by omega
   have h3 := hg k h2
   have h4 : gs[k] = zi (h k) := by
    have : ((List.range n).map (fun k => zi (h k)))[k]'(by simp; omega) = zi (h k) := by simp
    rw [<- this]
    congr 1
    exact he.symm
   exact X3 (h3.symm.trans h4)
open Classical in
theorem zig (vn vc vg : Value) (n : Net) (cs gs : List (List UInt8)) (w : World) (hn : Zq w vn n) (hc : yJ w vc cs) (hg : yJ w vg gs) (hsz : n.err = 0 -> n.nodes.length <= 6 /\ n.pipes.length <= 9) :
 Calls Tryz.prog 20 #[vn, vc, vg] w (zaa n cs gs w) := by
 have HGN := ze hg
 have hnm := fun w' (h : Below w.heap.size w w') => zky vg gs w' (hg.below h)
 have HNM := ze hnm
 obtain ⟨AG, cg, rfl, hg1, hg2, hg3, hg4, hg5⟩ := hg
 clear hg1 hg2 hg4 hg5 hnm
 have HNET := ze hn
 have HCN := ze hc
 have HSZ := ze hsz
 obtain ⟨A0, k0, c0, A1, k1, c1, A2, k2, c2, A3, k3, c3, rfl, hn0, hn1, hn2, hn3⟩ := hn
 have hck := fun w' (h : Below w.heap.size w w') => zcg (.agg #[.slice A0 k0 c0, .slice A1 k1 c1, .slice A2 k2 c2, .slice A3 k3 c3]) n w' (HNET.out.below h)
 have hcd := fun w' (h : Below w.heap.size w w') => zf1 (.agg #[.slice A0 k0 c0, .slice A1 k1 c1, .slice A2 k2 c2, .slice A3 k3 c3]) vc n cs w' (HNET.out.below h) (HCN.out.below h)
 obtain ⟨ev, HEV⟩ : ∃ ev, Hid (n.err = ev) := ⟨_, ze rfl⟩
 obtain ⟨cv, HCV⟩ : ∃ cv, Hid (yV n cs = cv) := ⟨_, ze rfl⟩
 have HASK : Hid (yL n cs = if ev ≠ 0 then ev else cv) := by show _ = _; unfold yL; rw [HEV.out, HCV.out]
 rw [HEV.out] at hck
 unfold zdz at hcd
 rw [HCV.out] at hcd
 have HCK := ze hck
 have HCD := ze hcd
 have HP1 := ze hn1
 have HP0 := ze hn0
 have HW := ze (zg w (.cells #[.slice A0 k0 c0, .slice A1 k1 c1, .slice A2 k2 c2, .slice A3 k3 c3] 26))
 have HK := ze (Blk.new w 26 #[.slice A0 k0 c0, .slice A1 k1 c1, .slice A2 k2 c2, .slice A3 k3 c3])
 clear hn0 hn1 hn2 hn3 hck hcd hsz hc
 obtain ⟨r0, r1, r2, r3, rL⟩ := yG HK.out
 have hk0 : k0 = n.nodes.length := by obtain ⟨A', c', e, _⟩ := HP0.out; injection e
 have HK0 := ze hk0
 unfold zaa
 obtain ⟨x, HX⟩ : ∃ x, Hid (VC n cs gs = x) := ⟨_, ze rfl⟩
 rw [HX.out]
 have HBE : Hid (x = if yL n cs ≠ 0 then yL n cs else if gs.length ≠ n.nodes.length then 1 else if (∃ g ∈ gs, (zl g).isSome = false) then 4 else 0) := by show _ = _; rw [<- HX.out]; rfl
 clear hk0
 go_enter Tryz.func20, Tryz.ntmps20
 go_wp2_with fail
 refine (HCK.out _ HW.out).mono ?_
 rintro e WN ⟨rfl, hbB⟩
 try clear r0 r1 r2 r3 rL
 replace HK := kb_ HK hbB
 replace HW := eb_ HW hbB
 clear hbB
 obtain ⟨r0, r1, r2, r3, rL⟩ := yG HK.out
 by_cases h0 : ev = 0
 . subst h0
   have HASK2 : Hid (yL n cs = cv) := ze (by have := HASK.out; rw [if_neg (by decide)] at this; exact this); clear HASK; go_wp2_with fail; refine (HCD.out _ HW.out).mono ?_; rintro e w2 ⟨hb2, hor⟩; clear r0 r1 r2 r3 rL; replace HK := kb_ HK hb2; replace HW := eb_ HW hb2; clear hb2
   rcases hor with ⟨hne, rfl⟩ | ⟨h0, v, rfl, hv⟩
   . have hI : (cv != 0) = true := by rw [bne_iff_ne]; exact hne
     have HXC : Hid (x = cv) := ze (by have h := HBE.out; rw [HASK2.out, if_pos hne] at h; exact h); have HNE := ze hne; clear hne; go_wp2_with fail; go_ret2; have h9 := HXC.out; subst h9; exact ⟨HW.out, .inl ⟨HNE.out, rfl⟩⟩
   . subst h0
     have HBE2 : Hid (x = if gs.length ≠ n.nodes.length then 1 else if (∃ g ∈ gs, (zl g).isSome = false) then 4 else 0) := ze (by have h := HBE.out; rw [HASK2.out, if_neg (by decide)] at h; exact h); have HN0 : Hid (n.err = 0) := ze (by rw [HEV.out]); have HC0 : Hid (yV n cs = 0) := ze (by rw [HCV.out]); have HG : Hid (xh n.nodes.length n.pipes.length n.pf n.pt (yl cs) (Net.at_ n.heads) (zht n) (zfq n.nodes.length)) := XX HN0.out HC0.out (HSZ.out HN0.out).1 (HSZ.out HN0.out).2; have HP5 := ze (Net.err_zero HN0.out).1; have HSM := ze (VH HN0.out); have hsd := fun w' (h : Below w.heap.size w w') (hv : Zv w' v n.pipes.length (yl cs)) => zax (.agg #[.slice A0 k0 c0, .slice A1 k1 c1, .slice A2 k2 c2, .slice A3 k3 c3]) v n (yl cs) w' (HNET.out.below h) hv HP5.out HG.out
     have HSD := ze hsd; have HV := ze hv; clear hv hsd HBE; obtain ⟨r0, r1, r2, r3, rL⟩ := yG HK.out
     by_cases hl : gs.length = n.nodes.length
     . have hd : ((gs.length : Int) != (k0 : Int)) = false := by rw [bne_eq_false_iff_eq]; have := HK0.out; omega
       have HBE3 : Hid (x = if (∃ g ∈ gs, (zl g).isSome = false) then 4 else 0) := ze (by have h := HBE2.out; rw [if_neg (by omega)] at h; exact h); have HL := ze hl; clear hl HBE2; go_wp2_with fail; refine (HNM.out _ HW.out).mono ?_; rintro e w3 ⟨hb3, hor⟩; clear r0 r1 r2 r3 rL; have HV1 := ze (HV.out.below hb3); replace HK := kb_ HK hb3; replace HW := eb_ HW hb3; clear hb3 HV
       rcases hor with ⟨hno, rfl⟩ | ⟨hall, v3, rfl, hv3⟩
       . have HX4 : Hid (x = 4) := ze (by
          have h := HBE3.out; rw [if_pos] at h
          . exact h
          . obtain ⟨j, hj, hjr⟩ := hno
            exact ⟨gs[j], List.getElem_mem hj, by have e : gs.getD j [] = gs[j] := by simp [List.getD, List.getElem?_eq_getElem hj]
                                                  rw [<- e]; exact hjr⟩)
         clear hno; go_wp2_with fail; go_ret2; have h9 := HX4.out; subst h9; exact ⟨HW.out, .inl ⟨by decide, rfl⟩⟩
       . have HX0 : Hid (x = 0) := ze (by
          have h := HBE3.out; rw [if_neg] at h
          . exact h
          . rintro ⟨g, hg, hgr⟩
            obtain ⟨j, hj, rfl⟩ := List.mem_iff_getElem.1 hg; have h1 := hall j hj; have e : gs.getD j [] = gs[j] := by simp [List.getD, List.getElem?_eq_getElem hj]
            rw [e, hgr] at h1
            cases h1)
         have HALL := ze hall; have HV3 := ze hv3; clear hall hv3; obtain ⟨r0, r1, r2, r3, rL⟩ := yG HK.out; go_wp2_with fail; refine (HSD.out _ HW.out HV1.out).mono ?_; rintro e w4 ⟨v4, h4, rfl, hv4, his, hdz, hb4⟩; have HIS := ze his
         have hsm := zrw v3 v4 n.nodes.length (yl gs) h4 w4 (by rw [<- HL.out]; exact HV3.out.below hb4) hv4 (fun k hk => by
          have h1 := HALL.out k (by have := HL.out; omega); obtain ⟨q, hq⟩ := Option.isSome_iff_exists.1 h1; have e2 : yl gs k = q := by unfold yl vP; rw [hq]; rfl
          rw [e2]
          exact (zad hq).mono (by omega)) (fun k hk => zmh (hdz k hk) (by omega)) (by have := HSM.out.1; omega)
         clear r0 r1 r2 r3 rL; replace HK := kb_ HK hb4; replace HW := eb_ HW hb4; clear his hdz hv4 hb4
         have HDE : Hid (decide (∀ k, k < n.nodes.length -> yl gs k = h4 k) = decide ((List.range n.nodes.length).map (fun k => zi (h4 k)) = gs)) := by
          show _ = _
          have := zmq (h := h4) HL.out HALL.out
          by_cases hh : ∀ k, k < n.nodes.length -> yl gs k = h4 k
          . rw [decide_eq_true hh, decide_eq_true (this.1 hh)]
          . rw [decide_eq_false hh, decide_eq_false (fun h => hh (this.2 h))]
         generalize decide (∀ k, k < n.nodes.length -> yl gs k = h4 k) = db at HDE hsm; go_wp2_with fail; refine hsm.mono ?_; rintro e w5 ⟨rfl, hb5⟩; replace HK := kb_ HK hb5; replace HW := eb_ HW hb5; clear hb5 hsm; go_wp2_with fail; go_ret2; have h9 := HX0.out; subst h9; exact ⟨HW.out, .inr ⟨rfl, h4, HIS.out, by rw [HDE.out]; congr⟩⟩
     . have hd : ((gs.length : Int) != (k0 : Int)) = true := by rw [bne_iff_ne]; have := HK0.out; omega
       have HX1 : Hid (x = 1) := ze (by have h := HBE2.out; rw [if_pos hl] at h; exact h); clear hl; go_wp2_with fail; go_ret2; have h9 := HX1.out; subst h9; exact ⟨HW.out, .inl ⟨by decide, rfl⟩⟩
 . have hI : (ev != 0) = true := by rw [bne_iff_ne]; exact h0
   have HXC : Hid (x = ev) := ze (by have h := HBE.out; have h2 := HASK.out; rw [if_pos h0] at h2; rw [h2, if_pos h0] at h; exact h); have H0 := ze h0; clear HASK h0 HCK HCD HEV; go_wp2_with fail; go_ret2; have h9 := HXC.out; subst h9; exact ⟨HW.out, .inl ⟨H0.out, rfl⟩⟩
end Go.Proofs.YtdecgcdkaaiglaaGreat
