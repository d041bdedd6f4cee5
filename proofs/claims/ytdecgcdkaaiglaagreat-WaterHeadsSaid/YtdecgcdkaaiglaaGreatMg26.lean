/- Parts of the proof: memory, numbers, walks of the functions that are called. -/
import Derived.Test.YtdecgcdkaaiglaaGreatMg24
import Derived.Test.YtdecgcdkaaiglaaGreatMg25
set_option linter.unusedVariables false
set_option linter.unusedSimpArgs false
set_option maxRecDepth 100000
set_option maxHeartbeats 32000000
namespace Go.Proofs.YtdecgcdkaaiglaaGreat
open Go.RowKit Go.Deep
attribute [local go_sem ↓] Go.wp_at_zero Go.wp_at_succ
theorem zti : (Tryz.prog.info? 106).map (·.size) = some 25 := by kernel_rfl
theorem Tryz.underlying106 : Tryz.prog.underlying 106 = some (.array 25 28) := by kernel_rfl
theorem zf2 : (Tryz.prog.info? 28).map (fun i => (i.zero, i.size, i.bytes)) = some (some (.string ⟨#[]⟩), 1, 16) := by kernel_rfl
theorem Tryz.underlying27 : Tryz.prog.underlying 27 = some (.slice 28) := by kernel_rfl
theorem zhp {A : Tab} {i c : Nat} (h : zS 50000 (A i c)) : zO (txt A i c) := by
 have := Yp h
 unfold zO txt; omega
theorem yN {q : Rat} (h : zS 50000 q) : zO (zi q) := by
 have := Yp h
 unfold zO; omega
theorem zj9 (A : Tab) (k p : Nat) : zfc (zfc (txt A) k (txt A p)) p (txt A k) = txt (swapped A k p) := by
 funext i c
 unfold zfc txt swapped
 by_cases h1 : i = p
 . subst h1
   by_cases h2 : i = k
   . subst h2; simp
   . simp [h2]
 . by_cases h2 : i = k
   . subst h2; simp [h1]
   . simp [h1, h2]
theorem zru {A : Tab} {k i c : Nat} (hc : k <= c) : upd (txt (zgy A k i c)) i c (zi (A i c - A i k / A k k * A k c)) = txt (zgy A k i (c + 1)) := by
 rw [<- zlk hc]
 funext i' c'
 unfold upd txt
 by_cases h : i' = i /\ c' = c
 . rw [if_pos h]; simp [h]
 . rw [if_neg h]; simp [h]
theorem ZO {w w1 w2 : World} {g : Nat} (h : w.grownBy w1 (some g)) (hb : Below w1.heap.size w1 w2) : w.grownBy w2 (some g) := YW h hb
theorem Xr {w : World} {g : Nat} (vs : List Value) : ∀ {w' : World} (h : w.grownBy w' (some g)) (o : Nat), w.grownBy (w'.setCells g o vs) (some g) := by
 induction vs with
 | nil => intro w' h o; exact h
 | cons v r ih => intro w' h o; exact ih (h.set_ g o v) (o + 1)
theorem zej {w w1 w2 w3 : World} {g : Nat} {row : Option Nat} (h : w.grownBy w1 (some g)) (hb : Below w1.heap.size w1 w2) (hg : w2.grownBy w3 row) (hr : ∀ k, row = some k -> w.heap.size <= k) : w.grownBy w3 (some g) := by
 have h2 := YW h hb
 exact ⟨hg.os.trans h2.os, hg.tape.trans h2.tape, hg.output.trans h2.output, Nat.le_trans h2.size hg.size, fun b hb1 hn => (hg.block b (Nat.lt_of_lt_of_le hb1 h2.size) (fun e => by have := hr b e.symm; omega)).trans (h2.block b hb1 hn)⟩
theorem za3 {i : Nat} (f : Nat -> Value) : (List.range (i + 1)).map f = (List.range i).map f ++ [f i] := by rw [List.range_succ, List.map_append]; rfl
def SolK (m E g : Nat) (A0 : Tab) (w : World) (iv : Value) (wr : World) : Prop :=
 ∃ (k : Nat) (A : Tab), k <= m /\ iv = .int .i64 k /\ Hid (X2 m A0 E k A) /\ Hid (yv wr g m (txt A)) /\ Hid (w.grownBy wr (some g))
def SolI (m k g : Nat) (B : Tab) (w : World) (iv : Value) (wr : World) : Prop :=
 ∃ i : Nat, i <= m /\ iv = .int .i64 i /\ Hid (yv wr g m (txt (freed B k i))) /\ Hid (w.grownBy wr (some g))
def SolC (m k i g : Nat) (B : Tab) (w : World) (cv : Value) (wr : World) : Prop :=
 ∃ c : Nat, k <= c /\ c <= m + 1 /\ cv = .int .i64 c /\ Hid (yv wr g m (txt (zgy B k i c))) /\ Hid (w.grownBy wr (some g))
def SolO (m g : Nat) (A : Tab) (w : World) (ov iv : Value) (wr : World) : Prop :=
 ∃ i : Nat, i <= m /\ iv = .int .i64 i /\ Hid (wr.ownsRow w.heap.size 28 1 ov i ((List.range i).map fun i => str (zi (A i m / A i i)))) /\ Hid (yv wr g m (txt A)) /\ Hid (w.grownBy wr (some g))
def znn (m E : Nat) (A0 : Tab) (g : Nat) (w : World) (e : Ending) (w' : World) : Prop :=
 ∃ v A, e = .returned v /\ X2 m A0 E m A /\ w'.ownsRow w.heap.size 28 1 v m ((List.range m).map fun i => str (zi (A i m / A i i))) /\ w.grownBy w' (some g)
theorem zhi (g m E : Nat) (A0 : Tab) (w : World) (hR : yv w g m (txt A0)) (h0 : X2 m A0 E 0 A0) (hm : m <= 24) (hE : E * 2 ^ m <= 49999) :
 Calls Tryz.prog 81 #[.slice (some ⟨g, 0, none⟩) m m, .int .i64 m, .func (.func 40) #[] #[], .func (.func 39) #[] #[], .func (.func 69) #[] #[]] w (znn m E A0 g w) := by
 have HGL := ze hR.lt
 have HR := ze hR
 have H0 := ze h0
 have HG := ze (World.grownBy.refl w (some g))
 have HE := ze hE
 clear hR h0 hE
 go_enter Tryz.func81, Tryz.ntmps81
 go_wp2_with fail
 go_loopw [19] (SolK m E g A0 w) (fun iv _ => m - (intOf iv).toNat)
 case atStart => exact ⟨0, A0, Nat.zero_le _, rfl, H0, HR, HG⟩
 case round =>
  clear H0 HR HG
  obtain ⟨k, A, hk, rfl, HEl, HR, HG⟩ := hrel
  by_cases hlt : k < m
  . obtain ⟨p0, hp1, hp2, hne⟩ := HEl.out.1.pivot hlt
    have HNE := ze hne; have hk25 : (k : Int) < 25 := by omega
    clear hne; go_wp2_with fail
    go_loop [12] (fun pv => ∃ p : Nat, k <= p /\ p <= p0 /\ pv = .int .i64 p) (fun pv => p0 - (intOf pv).toNat)
    case atStart => exact ⟨k, Nat.le_refl _, hp1, rfl⟩
    case round =>
     obtain ⟨p, hp3, hp4, rfl⟩ := hrel; have hpm : p < m := by omega
     have cp := HR.out.cell hpm (show k < 25 by omega); have hpi : (p : Int) < (m : Int) := by omega
     by_cases hz : A p k = 0
     . have hI : (txt A p k == [48]) = true := by rw [beq_iff_eq]; exact yA.2 hz
       have hpp : p < p0 := by
        rcases Nat.lt_or_ge p p0 with h | h
        . exact h
        . obtain rfl : p = p0 := by omega
          exact absurd hz HNE.out
       clear hz; go_wp2_with fail; go_round
       case rel => exact ⟨p + 1, by omega, by omega, by go_num⟩
       case measure => simp [intOf]; omega
     . have hI : (txt A p k == [48]) = false := by rw [beq_eq_false_iff_ne]; exact fun e => hz (yA.1 e)
       have HZ := ze hz; clear hz; have hki : (k : Int) < (m : Int) := by omega
       obtain ⟨RP, hRP⟩ : ∃ x, x = vC (txt A p) := ⟨_, rfl⟩; obtain ⟨RK, hRK⟩ : ∃ x, x = vC (txt A k) := ⟨_, rfl⟩
       have hlp : ∀ w', (∃ t : zb8 wr, w' = grown wr t) -> (Instr.loadAt 106 (.pointer (some ⟨g, p * 25, none⟩))).run Tryz.prog w' = .ok (.agg RP.toArray) w' := fun w' ⟨t, ht⟩ => by
        subst ht; rw [hRP]; exact run_loadAt_mid _ _ _ _ _ _ ((HR.out.below t.below).range hpm) Tryz.underlying106 rfl (by rw [xA]; exact zti)
       have hlk : ∀ w', (∃ t : zb8 wr, w' = grown wr t) -> (Instr.loadAt 106 (.pointer (some ⟨g, k * 25, none⟩))).run Tryz.prog w' = .ok (.agg RK.toArray) w' := fun w' ⟨t, ht⟩ => by
        subst ht; rw [hRK]; exact run_loadAt_mid _ _ _ _ _ _ ((HR.out.below t.below).range hlt) Tryz.underlying106 rfl (by rw [xA]; exact zti)
       have HLP := ze hlp; have HLK := ze hlk; have HRP := ze hRP; have HRK := ze hRK; clear hRP hRK hlp hlk; go_wp2_with fail; clear cp; refine vL 4 13 (by kernel_rfl) (by kernel_rfl) ?_ ?_
       . intro _ _ _ _ _ h9; exact h9
       simp only [List.take_succ_cons, List.take_zero, List.drop_succ_cons, List.drop_zero]; refine Z0 (fun K hK => ?_)
       go_simp
       refine hK _ ?_; clear hK K; refine Z0 (fun K hK => ?_)
       go_simp
       refine hK _ ?_; clear hK K; refine Z0 (fun K hK => ?_)
       go_simp
       refine hK _ ?_; clear hK K; refine Z0 (fun K hK => ?_)
       go_simp
       refine hK _ ?_; clear hK K; refine zau ?_
       repeat (quiet_step (first | (fail)))
       refine wpQuiet_step (fun K hK => ?_); rw [if_pos (by rfl)]; refine zex _ _ rfl rfl HLP.out (hK _ ?_); clear hK K; simp only [Act.put, List.setIfInBounds_toArray, List.set_cons_zero, List.set_cons_succ]
       repeat (quiet_step (first | (fail)))
       refine wpQuiet_step (fun K hK => ?_); rw [if_pos (by rfl)]; refine zex _ _ rfl rfl HLK.out (hK _ ?_); clear hK K; simp only [Act.put, List.setIfInBounds_toArray, List.set_cons_zero, List.set_cons_succ]
       repeat (quiet_step (first | (fail)))
       refine wpQuiet_nil ?_; rintro w9 ⟨t9, rfl⟩; have hbB := yy wr t9; replace HR := ze (HR.out.below hbB); replace HG := ze (ZO HG.out hbB); generalize grown wr t9 = WN at hbB HR HG |-; clear t9; clear HLP HLK hbB; have e1 : RP.toArray.size = 25 := by simp [HRP.out, xA]
       have e2 : RK.toArray.size = 25 := by simp [HRK.out, xA]
       have hb1 : ∀ v ∈ RP, v.oneCell' = true := by rw [HRP.out]; exact zbj _
       have hb2 : ∀ v ∈ RK, v.oneCell' = true := by rw [HRK.out]; exact zbj _
       have HR1 := HR.out.setRow hlt (txt A p); have HG1 := ze (Xr (vC (txt A p)) HG.out (k * 25)); rw [<- HRP.out] at HR1 HG1; have HR1 := ze HR1; have HR2 := HR1.out.setRow hpm (txt A k); have HG2 := ze (Xr (vC (txt A k)) HG1.out (p * 25)); rw [<- HRK.out] at HR2 HG2; rw [zj9] at HR2; have HR2 := ze HR2; have HEB := ze (HEl.out.swapped hp3 hpm); have HB0 : Hid (swapped A k p k k ≠ 0) := ze (by unfold swapped; rw [if_pos rfl]; exact HZ.out)
       have hst1 : (storeCells ⟨g, k * 25, none⟩ RP 0).run Tryz.prog WN = .ok () (WN.setCells g (k * 25) RP) := by
        have ht := HR.out.there_ hlt; exact run_storeCells_cells (P := Tryz.prog) g (k * 25) RP 0 WN (fun j hj => (ht j (by simp at e1; omega)).1) (fun j hj => (ht j (by simp at e1; omega)).2) hb1
       have hst2 : (storeCells ⟨g, p * 25, none⟩ RK 0).run Tryz.prog (WN.setCells g (k * 25) RP) = .ok () ((WN.setCells g (k * 25) RP).setCells g (p * 25) RK) := by
        have ht := HR1.out.there_ hpm; exact run_storeCells_cells (P := Tryz.prog) g (p * 25) RK 0 _ (fun j hj => (ht j (by simp at e2; omega)).1) (fun j hj => (ht j (by simp at e2; omega)).2) hb2
       have e3 : RP.length = 25 := by simpa using e1
       have e4 : RK.length = 25 := by simpa using e2
       generalize WN.setCells g (k * 25) RP = W2 at HR1 HG1 HR2 HG2 hst1 hst2 |-; clear e1 e2 hb1 hb2; go_wp2_with fail; clear HR HG HR1 HG1 hst1 hst2 e3 e4; generalize W2.setCells g (p * 25) RK = W3 at HR2 HG2 |-; clear HRP HRK HEl HZ; generalize swapped A k p = B at HR2 HEB HB0; clear hp1 hp2 HNE hp3 hp4 hpi hpm; go_wp2_with fail
       go_loopw [47] (SolI m k g B w) (fun iv _ => m - (intOf iv).toNat)
       case atStart => exact ⟨0, Nat.zero_le _, rfl, by rw [ze4]; exact HR2, HG2⟩
       case round =>
        clear HR2 HG2; obtain ⟨i, hi, rfl, HR, HG⟩ := hrel
        by_cases hil : i < m
        . have hii : (i : Int) < (m : Int) := by omega
          have ci := HR.out.cell hil (show k < 25 by omega); have ck := HR.out.cell hlt (show k < 25 by omega); have lg := HR.out.lt
          by_cases hik : i = k
          . have hd : ((i : Int) == (k : Int)) = true := by rw [beq_iff_eq]; omega
            have HS := ze (XQ (A := B) (k := k) (i := i) (.inl hik)); clear ci ck hik; go_wp2_with fail; go_round
            case rel => exact ⟨i + 1, by omega, by go_num, by rw [HS.out]; exact HR, HG⟩
            case measure => simp [intOf]; omega
          . have hd : ((i : Int) == (k : Int)) = false := by rw [beq_eq_false_iff_ne]; omega
            have HIK := ze hik; have er : txt (freed B k i) i k = zi (B i k) := by unfold txt; rw [zdh]
            have ek : txt (freed B k i) k k = zi (B k k) := by unfold txt; rw [ze5]
            rw [er] at ci; rw [ek] at ck; clear er ek hik
            by_cases hz : B i k = 0
            . have hI : (zi (B i k) == [48]) = true := by rw [beq_iff_eq]; exact yA.2 hz
              have HS := ze (XQ (A := B) (k := k) (i := i) (.inr hz)); clear hz; go_wp2_with fail; go_round
              case rel => exact ⟨i + 1, by omega, by go_num, by rw [HS.out]; exact HR, HG⟩
              case measure => simp [intOf]; omega
            . have hI : (zi (B i k) == [48]) = false := by rw [beq_eq_false_iff_ne]; exact fun e => hz (yA.1 e)
              have s1 := HEB.out.short (Nat.le_of_lt hlt) HE.out hil (Nat.le_of_lt hlt); have s2 := HEB.out.short (Nat.le_of_lt hlt) HE.out hlt (Nat.le_of_lt hlt); have s3 := HEB.out.quot hlt HE.out hil (Nat.le_of_lt hlt) HB0.out; have hov := fun w' => zhq (zi (B i k)) (zi (B k k)) w' (yN s1) (yN s2)
              unfold zup at hov; rw [zmi s1 s2 HB0.out s3] at hov; clear hz s1 s2 s3; go_wp2_with fail; have cig := z8 lg ci; have ckg := z8 lg ck; refine Yj (by kernel_rfl) (by kernel_rfl) ?_
              repeat (quiet_step (first | (go_at_call 69; exact yQ (hov _))))
              refine wpQuiet_nil ?_; rintro w9 ⟨t9, rfl⟩; clear cig ckg; have hbB := yy wr t9; replace HR := ze (HR.out.below hbB); replace HG := ze (ZO HG.out hbB); generalize grown wr t9 = WN at hbB HR HG |-; clear t9; clear ci ck lg hbB hov; go_wp2_with fail
              go_loopw [15] (SolC m k i g B w) (fun cv _ => m + 1 - (intOf cv).toNat)
              case atStart => exact ⟨k, Nat.le_refl _, by omega, rfl, by rw [zek]; exact HR, HG⟩
              case round =>
               clear HR HG; obtain ⟨c, hc1, hc2, rfl, HR, HG⟩ := hrel
               by_cases hcl : c <= m
               . have hci : (c : Int) <= (m : Int) := by omega
                 have hc25 : (c : Int) < 25 := by omega
                 have ci := HR.out.cell hil (show c < 25 by omega); have ck := HR.out.cell hlt (show c < 25 by omega); have lg := HR.out.lt; have er : txt (zgy B k i c) i c = zi (B i c) := by unfold txt; rw [zlr (Nat.le_refl _)]
                 have ek : txt (zgy B k i c) k c = zi (B k c) := by unfold txt; rw [zto HIK.out]
                 rw [er] at ci; rw [ek] at ck; have s1 := HEB.out.short (Nat.le_of_lt hlt) HE.out hil hcl; have s2 := HEB.out.short (Nat.le_of_lt hlt) HE.out hlt hcl; have s3 := HEB.out.quot hlt HE.out hil (Nat.le_of_lt hlt) HB0.out; have s4 := HEB.out.prod hlt HE.out hil hcl HB0.out; have s5 := HEB.out.diff hlt HE.out hil HIK.out hcl HB0.out; have htm := fun w' => za4 (zi (B i k / B k k)) (zi (B k c)) w' (yN s3) (yN s2)
                 have hmi := fun w' => XL (zi (B i c)) (zi (B i k / B k k * B k c)) w' (yN s1) (yN s4)
                 unfold Vi at htm; unfold XH at hmi; rw [Xe s3 s2 s4] at htm; rw [Xe s1 s4 s5] at hmi; clear s1 s2 s3 s4 s5 er ek; go_wp2_with fail; have cig := z8 lg ci; have ckg := z8 lg ck; refine zZ 22 (by kernel_rfl) (by kernel_rfl) ?_; simp only [List.take_succ_cons, List.take_zero, List.drop_succ_cons, List.drop_zero]
                 repeat (quiet_step (first | (go_at_call 39; exact yQ (htm _)) | (go_at_call 40; exact yQ (hmi _))))
                 refine wpQuiet_nil ?_; rintro w9 ⟨t9, rfl⟩; clear cig ckg; have hbB := yy wr t9; replace HR := ze (HR.out.below hbB); replace HG := ze (ZO HG.out hbB); generalize grown wr t9 = WN at hbB HR HG |-; clear t9; clear ci ck lg hbB htm hmi; have c2 := HR.out.cell hil (show c < 25 by omega); have f2 := HR.out.frozen (i * 25 + c); have l2 := HR.out.lt; have hR2 := HR.out.set_ (i := i) (show c < 25 by omega) (zi (B i c - B i k / B k k * B k c)); rw [zru hc1] at hR2; have HR2 := ze hR2; have HG2 := ze (HG.out.set_ g (i * 25 + c) (str (zi (B i c - B i k / B k k * B k c)))); clear hR2; go_wp2_with fail; go_round
                 case rel => exact ⟨c + 1, by omega, by omega, by go_num, HR2, HG2⟩
                 case measure => simp [intOf]; omega
               . obtain rfl : c = m + 1 := by omega
                 have hR := HR.out; rw [zhr HEB.out hlt HIK.out] at hR; have HR2 := ze hR; clear hR HR; go_wp2_with fail; go_round
                 case rel => exact ⟨i + 1, by omega, by go_num, HR2, HG⟩
                 case measure => simp [intOf]; omega
        . obtain rfl : i = m := by omega
          have HEN := ze (HEB.out.freed hlt HB0.out); go_wp2_with fail; go_round
          case rel => exact ⟨k + 1, freed B k i, by omega, by go_num, HEN, HR, HG⟩
          case measure => simp [intOf]; omega
  . obtain rfl : k = m := by omega
    obtain ⟨i0, hi0, hz0, hz1, hz2⟩ := info_parts zf2; clear hlt; go_wp2_with fail
    go_loopw [16, 107] (SolO k g A w) (fun _ iv _ => k - (intOf iv).toNat)
    case atStart => exact ⟨0, Nat.zero_le _, rfl, World.ownsRow_nil _ _ _ _, HR, HG⟩
    case round =>
     clear HR HG; obtain ⟨i, hi, rfl, HO, HR, HG⟩ := hrel
     by_cases hil : i < k
     . have hii : (i : Int) < (k : Int) := by omega
       have hk25 : (k : Int) < 25 := by omega
       have hi25 : (i : Int) < 25 := by omega
       have ci := HR.out.cell hil (show k < 25 by omega); have ck := HR.out.cell hil (show i < 25 by omega); have lg := HR.out.lt; have s1 := HEl.out.short (Nat.le_refl _) HE.out hil (Nat.le_refl _); have s2 := HEl.out.short (Nat.le_refl _) HE.out hil (Nat.le_of_lt hil); have s3 := HEl.out.answer HE.out hil; have hov := fun w' => zhq (zi (A i k)) (zi (A i i)) w' (yN s1) (yN s2)
       unfold zup at hov; rw [zmi s1 s2 (HEl.out.1.2.1 i hil).1 s3] at hov; unfold txt at ci ck; clear s1 s2 s3; go_wp2_with fail; have cig := z8 lg ci; have ckg := z8 lg ck; refine vL 1 15 (by kernel_rfl) (by kernel_rfl) ?_ ?_
       . intro _ _ _ _ _ h9; exact h9
       simp only [List.take_succ_cons, List.take_zero, List.drop_succ_cons, List.drop_zero]; refine Z0 (fun K hK => ?_)
       go_simp
       refine hK _ ?_; clear hK K; refine zau ?_
       repeat (quiet_step (first | (go_at_call 69; exact yQ (hov _))))
       refine wpQuiet_nil ?_; rintro w9 ⟨t9, rfl⟩; clear cig ckg; have hbB := yy wr t9; replace HR := ze (HR.out.below hbB); replace HG := ze (ZO HG.out hbB); replace HO := ze (xU HO.out hbB); generalize grown wr t9 = WN at hbB HR HG HO |-; clear t9; clear ci ck lg hbB hov
       have h1c : ∀ u ∈ [str (zi (A i k / A i i))], u.oneCell' = true := by
        intro u hu; rw [List.mem_singleton] at hu; subst hu; rfl
       have hrd := yX WN 28 (str (zi (A i k / A i i))); go_wp2_with (at_builtin; refine zB _ rfl (.tmp 110) (.tmp 125) _ rfl w.heap.size 28 i0 _ 1 16 Tryz.underlying27 hi0 hz0 hz1 hz2 rfl (by omega) _ i _ rfl (HO.out.alloc _) _ (some ⟨WN.heap.size, 0, none⟩) 1 1 _ rfl hrd h1c ?o2 ?o3 ?o4 ?_)
       case o2 => unfold maxLen; omega
       case o3 => omega
       case o4 => have := HG.out.size; simp; omega
       intro v3 w3 hown3 hgr3 hat3; have hge := zg4 HO.out; have hx := zg WN (.cells #[str (zi (A i k / A i i))] 28); have HG3 := ze (zej HG.out hx hgr3 (fun k hk => by have := hge k hk; omega)); have HR3 : Hid (yv w3 g k (txt A)) := Blk.grown (HR.out.below hx) hgr3 (fun e => by have := hge _ e.symm; have := HGL.out; omega)
       have HO3 : Hid (w3.ownsRow w.heap.size 28 1 v3 (i + 1) ((List.range (i + 1)).map fun i => str (zi (A i k / A i i)))) := by
        rw [za3]; exact hown3
       clear hown3 hgr3 hat3 hge hx hrd h1c; go_wp2_with fail; go_roundw
       case rel => exact ⟨i + 1, by omega, by go_num, HO3, HR3, HG3⟩
       case measure => simp [intOf]; omega
     . obtain rfl : i = k := by omega
       go_wp2_with fail; go_ret; exact ⟨_, A, rfl, HEl.out, HO.out, HG.out⟩
end Go.Proofs.YtdecgcdkaaiglaaGreat
namespace Go.Proofs.YtdecgcdkaaiglaaGreat
structure xh (N np : Nat) (pf pt : Nat -> Nat) (c : Nat -> Rat) (fx : Nat -> Option Rat) (wl : Nat -> Rat) (asked : Nat -> Bool) : Prop where
 piped : Xk N np pf pt c
 tied : zwd N np pf pt fx asked
 cd : ∀ i, i < np -> Dz 12 (c i)
 fd : ∀ k, k < N -> Dz 12 (xC fx k)
 wd : ∀ k, k < N -> Dz 12 (wl k)
 hN : N <= 6
 hp : np <= 9
section
variable {N np : Nat} {pf pt : Nat -> Nat} {c : Nat -> Rat} {fx : Nat -> Option Rat} {wl : Nat -> Rat} {asked : Nat -> Bool}
def Yx (N np : Nat) (c : Nat -> Rat) (fx : Nat -> Option Rat) (wl : Nat -> Rat) (asked : Nat -> Bool) (i : Nat) : Int :=
 ((vK np (fun j => (c j).den) : Int) * (vK N (fun k => (xC fx k).den) : Int)) * ((wl ((x9 (zo fx asked) N).getD i 0)).den : Int)
def YI (N np : Nat) : Nat := 10 ^ (12 * np + 12 * N + 12)
variable (h : xh N np pf pt c fx wl asked)
include h
theorem xh.den_ok {i : Nat} (hi : i < yE (zo fx asked) N) : Yx N np c fx wl asked i ≠ 0 /\ (Yx N np c fx wl asked i).natAbs <= YI N np := by
 obtain ⟨m1, _, _⟩ := vN _ hi
 obtain ⟨a1, a2⟩ := Vn h.cd
 obtain ⟨b1, b2⟩ := Vn h.fd
 have d2 := (h.wd _ m1).2
 have d3 := (wl ((x9 (zo fx asked) N).getD i 0)).den_nz
 unfold Yx YI
 refine ⟨Int.mul_ne_zero (Int.mul_ne_zero (by omega) (by omega)) (by omega), ?_⟩
 rw [Int.natAbs_mul, Int.natAbs_mul, Nat.pow_add, Nat.pow_add]
 simp only [Int.natAbs_natCast]
 exact Nat.mul_le_mul (Nat.mul_le_mul a1 b1) d2
theorem xh.mul_c {i j : Nat} (hi : i < yE (zo fx asked) N) (hj : j < np) : xT (Yx N np c fx wl asked i) (YI N np) (c j) := by
 obtain ⟨m1, _, _⟩ := vN _ hi
 obtain ⟨b1, b2⟩ := Vn h.fd
 unfold Yx YI
 refine (((xT.prod h.cd hj).scale _).scale _).mono ?_
 rw [Nat.pow_add, Nat.pow_add]
 simp only [Int.natAbs_natCast]
 exact Nat.mul_le_mul (Nat.mul_le_mul (Nat.le_refl _) b1) (h.wd _ m1).2
theorem xh.mul_o {i j k : Nat} (hi : i < yE (zo fx asked) N) (hj : j < np) (hk : k < N) : xT (Yx N np c fx wl asked i) (YI N np) (c j * xC fx k) := by
 obtain ⟨m1, _, _⟩ := vN _ hi
 unfold Yx YI
 refine (((xT.prod h.cd hj).mul (xT.prod h.fd hk)).scale _).mono ?_
 rw [Nat.pow_add, Nat.pow_add]
 simp only [Int.natAbs_natCast]
 exact Nat.mul_le_mul (Nat.le_refl _) (h.wd _ m1).2
theorem xh.mul_w {i : Nat} (hi : i < yE (zo fx asked) N) : xT (Yx N np c fx wl asked i) (YI N np) (wl ((x9 (zo fx asked) N).getD i 0)) := by
 obtain ⟨m1, _, _⟩ := vN _ hi
 obtain ⟨a1, a2⟩ := Vn h.cd
 obtain ⟨b1, b2⟩ := Vn h.fd
 unfold Yx YI
 refine ((xT.den _).scale' _).mono ?_
 rw [Nat.pow_add, Nat.pow_add, Int.natAbs_mul]
 simp only [Int.natAbs_natCast]
 exact Nat.mul_le_mul (Nat.mul_le_mul a1 b1) (h.wd _ m1).1
theorem xh.mul_tab {i n : Nat} (hi : i < yE (zo fx asked) N) (hn : n <= np) (j : Nat) : xT (Yx N np c fx wl asked i) (YI N np + 4 * n * YI N np) (Zi pf pt c fx wl asked N n i j) :=
 zho pf pt c fx wl asked h.piped (fun i hi j hj => h.mul_c hi hj) (fun i hi j hj k hk => h.mul_o hi hj hk) (fun i hi => h.mul_w hi) hi n hn j
theorem xh.big : YI N np + 4 * np * YI N np + 4 * YI N np <= 10 ^ 200 := by
 have h1 := h.hN
 have h2 := h.hp
 have h3 : YI N np <= 10 ^ 192 := by unfold YI; exact Nat.pow_le_pow_right (by omega) (by omega)
 have h4 : 4 * np * YI N np <= 36 * YI N np := Nat.mul_le_mul (by omega) (Nat.le_refl _)
 have h5 : (10 : Nat) ^ 200 = 10 ^ 192 * 100000000 := by rw [show 200 = 192 + 8 by omega, Nat.pow_add]
 omega
theorem xh.short_of {i B : Nat} {q : Rat} (hi : i < yE (zo fx asked) N) (hq : xT (Yx N np c fx wl asked i) B q) (hB : B <= 10 ^ 200) : zS 50000 q := by
 obtain ⟨a1, a2⟩ := h.den_ok hi
 have h1 := h.big
 exact Dz.short (hq.sz a1 hB (by omega)) (by omega)
theorem xh.rank_le : yE (zo fx asked) N <= 6 := Nat.le_trans (Go.Proofs.YtdecgcdkaaiglaaGreat.rank_le _ _) h.hN
theorem zn3 {n : Nat} (hn : n <= np) {i j : Nat} (hj : yE (zo fx asked) N < j) : Zi pf pt c fx wl asked N n i j = 0 := by
 have hput : ∀ (A : Tab) (k o : Nat) (d : Rat), k < N -> o < N -> A i j = 0 -> X8 fx asked (yE (zo fx asked) N) A k o d i j = 0 := by
  intro A k o d hk ho hA
  unfold X8
  by_cases hP : zo fx asked k = true
  . rw [if_pos hP]
    have hrk := ZH _ hk hP
    by_cases hQ : zo fx asked o = true
    . rw [if_pos hQ]
      have hro := ZH _ ho hQ; unfold xi; rw [if_neg (by omega), if_neg (by omega)]; exact hA
    . rw [if_neg hQ]
      unfold xi; rw [if_neg (by omega), if_neg (by omega)]; exact hA
  . rw [if_neg hP]; exact hA
 induction n with
 | zero => unfold Zi; rw [if_neg (by omega)]
 | succ n ih =>
   unfold Zi; exact hput _ _ _ _ (h.piped.to_lt n (by omega)) (h.piped.from_lt n (by omega)) (hput _ _ _ _ (h.piped.from_lt n (by omega)) (h.piped.to_lt n (by omega)) (ih (by omega)))
theorem xh.elim : X2 (yE (zo fx asked) N) (Zi pf pt c fx wl asked N np) 200 0 (Zi pf pt c fx wl asked N np) := by
 refine ⟨Vp.start (zls pf pt c fx wl asked h.piped h.tied) ?_, fun i c hc => zn3 h (Nat.le_refl _) hc⟩
 have h1 := h.big
 have h2 : YI N np + 4 * np * YI N np + (YI N np + 4 * np * YI N np) <= 10 ^ 200 := by
  have h2 := h.hp
  have h3 : YI N np <= 10 ^ 192 := by unfold YI; exact Nat.pow_le_pow_right (by omega) (by have := h.hN; omega)
  have h4 : 4 * np * YI N np <= 36 * YI N np := Nat.mul_le_mul (by omega) (Nat.le_refl _)
  have h5 : (10 : Nat) ^ 200 = 10 ^ 192 * 100000000 := by rw [show 200 = 192 + 8 by omega, Nat.pow_add]
  omega
 obtain ⟨X, h6, h7⟩ := zo5 pf pt c fx wl asked (X := YI N np + 4 * np * YI N np) h.piped (fun i hi j hj => h.mul_c hi hj) (fun i hi j hj k hk => h.mul_o hi hj hk) (fun i hi => h.mul_w hi) (fun i hi => by
  obtain ⟨a1, a2⟩ := h.den_ok hi
  exact ⟨a1, by omega⟩) (Nat.le_refl _)
 exact ⟨X, by simp only [Nat.pow_zero, Nat.mul_one]; omega, h7⟩
theorem xh.fits : 200 * 2 ^ yE (zo fx asked) N <= 49999 := by
 have h1 := h.rank_le
 have h2 : 2 ^ yE (zo fx asked) N <= 2 ^ 6 := Nat.pow_le_pow_right (by omega) h1
 omega
end
def zbz (m : Nat) (R : Nat -> Nat -> List UInt8) : Nat -> Nat -> List UInt8 := fun i c => if i < m then R i c else [48]
theorem V3 (A : Tab) (i c : Nat) (d : Rat) : xi A i c d i c = A i c + d := by unfold xi; rw [if_pos ⟨rfl, rfl⟩]
theorem za5 {A : Tab} {i c i' c' : Nat} {d : Rat} (h : ¬ (i' = i /\ c' = c)) : xi A i c d i' c' = A i' c' := by unfold xi; rw [if_neg h]
theorem zmf (R : Nat -> Nat -> List UInt8) (i c : Nat) (x : List UInt8) : upd R i c x i c = x := by unfold upd; rw [if_pos ⟨rfl, rfl⟩]
theorem zkw {R : Nat -> Nat -> List UInt8} {i c i' c' : Nat} {x : List UInt8} (h : ¬ (i' = i /\ c' = c)) : upd R i c x i' c' = R i' c' := by unfold upd; rw [if_neg h]
theorem zf5 {m i j : Nat} {R : Nat -> Nat -> List UInt8} (hi : i < m) : zbz m R i j = R i j := by unfold zbz; rw [if_pos hi]
def YM (fx : Nat -> Option Rat) (asked : Nat -> Bool) (k : Nat) : Option Nat := if zo fx asked k = true then some (yE (zo fx asked) k) else none
section
variable {N : Nat} {fx : Nat -> Option Rat} {asked : Nat -> Bool}
theorem zli {A : Tab} {k o i j B b : Nat} {d : Rat} (hk : k < N) (ho : o < N) (hi : i < yE (zo fx asked) N) {s : Nat -> Int} (hA : ∀ i, i < yE (zo fx asked) N -> ∀ j, xT (s i) B (A i j)) (hd : ∀ i, i < yE (zo fx asked) N -> xT (s i) b d)
 (hdo : ∀ i, i < yE (zo fx asked) N -> xT (s i) b (d * xC fx o)) (hs : ∀ i, i < yE (zo fx asked) N -> ∀ B q, xT (s i) B q -> B <= 10 ^ 200 -> zS 50000 q) (hB : B + b + b <= 10 ^ 200) (hx : zS 50000 (xC fx o)) :
 zqq (yE (zo fx asked) N) (zbz (yE (zo fx asked) N) (txt A)) (YM fx asked k) (YM fx asked o) (zi (xC fx o)) (zi d) i j = txt (X8 fx asked (yE (zo fx asked) N) A k o d) i j := by
 unfold YM X8
 by_cases hP : zo fx asked k = true
 . rw [if_pos hP, if_pos hP]
   have hr := ZH _ hk hP; generalize yE (zo fx asked) N = m at *; generalize hrr : yE (zo fx asked) k = r at *; have sd := hs r hr _ _ (hd r hr) (by omega); have s1 := hs r hr _ _ (hA r hr r) (by omega); have hb1 : ∀ j, xT (s r) (B + b) (xi A r r d r j) := fun j => Zx (hA r hr) (hd r hr)
   have s2 := hs r hr _ _ (hb1 r) (by omega)
   have e1 : ∀ i j, i < m -> upd (zbz m (txt A)) r r (Zt (zbz m (txt A) r r) (zi d)) i j = txt (xi A r r d) i j := by
    intro i j hi; rw [V3] at s2; unfold Zt; rw [zf5 hr, show txt A r r = zi (A r r) from rfl, Xe s1 sd s2]
    by_cases h1 : i = r /\ j = r
    . rw [h1.1, h1.2, zmf]; unfold txt; rw [V3]
    . rw [zkw h1, zf5 hi]; unfold txt; rw [za5 h1]
   by_cases hQ : zo fx asked o = true
   . rw [if_pos hQ, if_pos hQ]
     generalize yE (zo fx asked) o = q at *; have s3 := hs r hr _ _ (Zx (i' := r) (c' := q) hb1 (j := q) (hd r hr).neg) (by omega); have s4 := hs r hr _ _ (hb1 q) (by omega); have eb : xi (xi A r r d) r q (-d) r q = xi A r r d r q - d := by rw [V3]; exact (Rat.sub_eq_add_neg _ _).symm
     rw [eb] at s3
     show upd (upd (zbz m (txt A)) r r (Zt (zbz m (txt A) r r) (zi d))) r q (XH (upd (zbz m (txt A)) r r (Zt (zbz m (txt A) r r) (zi d)) r q) (zi d)) i j = _
     rw [e1 r q hr]; unfold XH; rw [show txt (xi A r r d) r q = zi (xi A r r d r q) from rfl, Xe s4 sd s3, <- eb]
     by_cases h1 : i = r /\ j = q
     . rw [h1.1, h1.2, zmf]; rfl
     . rw [zkw h1, e1 i j hi]; unfold txt; rw [za5 (A := xi A r r d) h1]
   . rw [if_neg hQ, if_neg hQ]
     have s3 := hs r hr _ _ (Zx (i' := r) (c' := m) hb1 (j := m) (hdo r hr)) (by omega); have s4 := hs r hr _ _ (hb1 m) (by omega); have s5 := hs r hr _ _ (hdo r hr) (by omega); have eb : xi (xi A r r d) r m (d * xC fx o) r m = xi A r r d r m + d * xC fx o := V3 _ _ _ _; rw [eb] at s3
     show upd (upd (zbz m (txt A)) r r (Zt (zbz m (txt A) r r) (zi d))) r m (Zt (upd (zbz m (txt A)) r r (Zt (zbz m (txt A) r r) (zi d)) r m) (Vi (zi d) (zi (xC fx o)))) i j = _
     rw [e1 r m hr]; have et : Vi (zi d) (zi (xC fx o)) = zi (d * xC fx o) := by unfold Vi; rw [Xe sd hx s5]
     rw [et]
     have e2 : Zt (txt (xi A r r d) r m) (zi (d * xC fx o)) = zi (xi (xi A r r d) r m (d * xC fx o) r m) := by
      rw [eb]; unfold Zt; rw [show txt (xi A r r d) r m = zi (xi A r r d r m) from rfl, Xe s4 s5 s3]
     rw [e2]
     by_cases h1 : i = r /\ j = m
     . rw [h1.1, h1.2, zmf]; rfl
     . rw [zkw h1, e1 i j hi]; unfold txt; rw [za5 (A := xi A r r d) h1]
 . rw [if_neg hP, if_neg hP]
   show zbz _ (txt A) i j = _
   unfold zbz; rw [if_pos hi]
end
section
variable {N np : Nat} {pf pt : Nat -> Nat} {c : Nat -> Rat} {fx : Nat -> Option Rat} {wl : Nat -> Rat} {asked : Nat -> Bool}
def zeo (pf pt : Nat -> Nat) (c : Nat -> Rat) (fx : Nat -> Option Rat) (wl : Nat -> Rat) (asked : Nat -> Bool) (N n : Nat) : Tab := X8 fx asked (yE (zo fx asked) N) (Zi pf pt c fx wl asked N n) (pf n) (pt n) (c n)
variable (h : xh N np pf pt c fx wl asked)
include h
theorem xh.mul_half {i n : Nat} (hi : i < yE (zo fx asked) N) (hn : n < np) (j : Nat) : xT (Yx N np c fx wl asked i) (YI N np + 4 * n * YI N np + YI N np + YI N np) (zeo pf pt c fx wl asked N n i j) :=
 zae fx asked (h.mul_tab hi (by omega)) (h.mul_c hi hn) (h.mul_o hi hn (h.piped.to_lt n hn)) j
theorem xh.le_big {n : Nat} (hn : n < np) : YI N np + 4 * n * YI N np + YI N np + YI N np + YI N np + YI N np <= 10 ^ 200 := by
 have h1 := h.big
 have h2 : 4 * n * YI N np <= 4 * np * YI N np := Nat.mul_le_mul (by omega) (Nat.le_refl _)
 omega
theorem xh.short_out {k : Nat} (hk : k < N) : zS 50000 (xC fx k) := Dz.short (h.fd k hk) (by omega)
theorem xh.put1 {n i j : Nat} (hn : n < np) (hi : i < yE (zo fx asked) N) :
 zqq (yE (zo fx asked) N) (zbz (yE (zo fx asked) N) (txt (Zi pf pt c fx wl asked N n))) (YM fx asked (pf n)) (YM fx asked (pt n)) (zi (xC fx (pt n))) (zi (c n)) i j = txt (zeo pf pt c fx wl asked N n) i j :=
 zli (s := Yx N np c fx wl asked) (h.piped.from_lt n hn) (h.piped.to_lt n hn) hi (fun i hi => h.mul_tab hi (by omega)) (fun i hi => h.mul_c hi hn) (fun i hi => h.mul_o hi hn (h.piped.to_lt n hn)) (fun i hi B q hq hB => h.short_of hi hq hB) (by have := h.le_big hn; omega) (h.short_out (h.piped.to_lt n hn))
theorem xh.put2 {n i j : Nat} (hn : n < np) (hi : i < yE (zo fx asked) N) :
 zqq (yE (zo fx asked) N) (zbz (yE (zo fx asked) N) (txt (zeo pf pt c fx wl asked N n))) (YM fx asked (pt n)) (YM fx asked (pf n)) (zi (xC fx (pf n))) (zi (c n)) i j = txt (Zi pf pt c fx wl asked N (n + 1)) i j :=
 zli (s := Yx N np c fx wl asked) (h.piped.to_lt n hn) (h.piped.from_lt n hn) hi (fun i hi => h.mul_half hi hn) (fun i hi => h.mul_c hi hn) (fun i hi => h.mul_o hi hn (h.piped.from_lt n hn)) (fun i hi B q hq hB => h.short_of hi hq hB) (by have := h.le_big hn; omega) (h.short_out (h.piped.from_lt n hn))
theorem xh.tab_smallS {n : Nat} (hn : n <= np) (i j : Nat) : zO (zbz (yE (zo fx asked) N) (txt (Zi pf pt c fx wl asked N n)) i j) := by
 unfold zbz
 split
 . next hi =>
   refine zhp (h.short_of hi (h.mul_tab hi hn j) ?_); have h1 := h.big; have h2 : 4 * n * YI N np <= 4 * np * YI N np := Nat.mul_le_mul (by omega) (Nat.le_refl _)
   omega
 . unfold zO; simp
theorem xh.half_smallS {n : Nat} (hn : n < np) (i j : Nat) : zO (zbz (yE (zo fx asked) N) (txt (zeo pf pt c fx wl asked N n)) i j) := by
 unfold zbz
 split
 . next hi => exact zhp (h.short_of hi (h.mul_half hi hn j) (by have := h.le_big hn; omega))
 . unfold zO; simp
end
end Go.Proofs.YtdecgcdkaaiglaaGreat
namespace Go.Proofs.YtdecgcdkaaiglaaGreat
open Go.RowKit Go.Deep
attribute [local go_sem ↓] Go.wp_at_zero Go.wp_at_succ
def row {α : Type} (N : Nat) (f : Nat -> α) : List α := (List.range N).map f
theorem Y9 {α : Type} (N : Nat) (f : Nat -> α) : (row N f).length = N := by simp [row]
theorem zdg {α : Type} {N : Nat} {f : Nat -> α} {k : Nat} (hk : k < N) : (row N f)[k]? = some (f k) := by
 unfold row
 rw [List.getElem?_map, List.getElem?_range hk]; rfl
theorem ziv {α : Type} {N : Nat} {f g : Nat -> α} (h : ∀ k, k < N -> f k = g k) : row N f = row N g := by
 unfold row
 exact List.map_congr_left fun k hk => h k (List.mem_range.1 hk)
theorem zu8 {α : Type} {N : Nat} {f g : Nat -> α} {k : Nat} {v : α} (hv : g k = v) (h : ∀ j, j < N -> j ≠ k -> g j = f j) : (row N f).set k v = row N g := by
 apply List.ext_getElem?
 intro j
 rw [List.getElem?_set]
 rcases Nat.lt_or_ge j N with hj | hj
 . rw [Y9]
   by_cases hk : k = j
   . subst hk; rw [if_pos rfl, if_pos hj, zdg hj, hv]
   . rw [if_neg hk, zdg hj, zdg hj, h j hj (fun e => hk e.symm)]
 . have h1 : (row N g)[j]? = none := List.getElem?_eq_none (by rw [Y9]; exact hj)
   have h2 : (row N f)[j]? = none := List.getElem?_eq_none (by rw [Y9]; exact hj); rw [h1, h2, Y9]
   split
   . rw [if_neg (by omega)]
   . rfl
def vD (w : World) (g : Nat) (t : TypeId) (N : Nat) (f : Nat -> Value) : Prop := Blk w g t (row N f).toArray
section
variable {w w' : World} {g N : Nat} {t : TypeId} {f : Nat -> Value}
theorem vD.lt (h : vD w g t N f) : g < w.heap.size := Blk.lt h
theorem vD.frozen (h : vD w g t N f) (j : Nat) : w.frozen? ⟨g, j, none⟩ = false := Blk.frozen h j
theorem vD.below (h : vD w g t N f) (hb : Below w.heap.size w w') : vD w' g t N f := Blk.below h hb h.lt
theorem vD.far (h : vD w g t N f) {p : Addr} (hp : g ≠ p.block) (u : Value) : vD (w.setCell p u) g t N f := Blk.far h hp u
theorem vD.cell (h : vD w g t N f) {k : Nat} (hk : k < N) : w.cell? ⟨g, k, none⟩ = some (f k) := by
 unfold vD at h
 rw [h.cell, List.getElem?_toArray, zdg hk]
theorem vD.set_ (h : vD w g t N f) {k : Nat} {v : Value} {f' : Nat -> Value} (hv : f' k = v) (hf : ∀ j, j < N -> j ≠ k -> f' j = f j) : vD (w.setCell ⟨g, k, none⟩ v) g t N f' := by
 unfold vD at h |-
 have := h.set_ k v
 rw [List.setIfInBounds_toArray, zu8 hv hf] at this
 exact this
theorem vD.grown {r : Option Nat} (h : vD w g t N f) (hb : w.grownBy w' r) (hg : some g ≠ r) : vD w' g t N f := Blk.grown h hb hg
theorem vD.congr (h : vD w g t N f) {f' : Nat -> Value} (e : ∀ k, k < N -> f k = f' k) : vD w g t N f' := by
 unfold vD at h |-
 rw [<- ziv e]; exact h
end
theorem yv.congr {w : World} {g M : Nat} {R R' : Nat -> Nat -> List UInt8} (h : yv w g M R) (e : ∀ i c, i < M -> c < 25 -> R i c = R' i c) : yv w g M R' := by
 unfold yv at h |-
 have e2 : xS M R = xS M R' := by
  unfold xS
  refine List.map_congr_left fun j hj => ?_
  have hj := List.mem_range.1 hj
  unfold zgr
  rw [e _ _ (by omega) (by omega)]
 rw [<- e2]; exact h
theorem zjp (n : Nat) (v : Value) : List.replicate n v = row n fun _ => v := by
 apply List.ext_getElem?
 intro j
 rcases Nat.lt_or_ge j n with h | h
 . rw [zdg h, List.getElem?_replicate, if_pos h]
 . rw [List.getElem?_replicate, if_neg (by omega), List.getElem?_eq_none (by rw [Y9]; exact h)]
theorem zrq : (Tryz.prog.info? 28).map (fun i => (i.zero, i.size, i.bytes)) = some (some (.string ⟨#[]⟩), 1, 16) := by kernel_rfl
theorem zs5 (k : IntKind) (n : Nat) (hn : n <= 1073741824) (w : World) :
 (Instr.makeSlice 27 (.int k (n : Int)) (.int k (n : Int))).run Tryz.prog w = .ok (.slice (some ⟨w.heap.size, 0, none⟩) n n) (w.alloc (.cells (row n (fun _ => str [])).toArray 28)) := by
 rw [run_make_row' 27 28 (.string ⟨#[]⟩) 16 Tryz.underlying27 zrq rfl k k n (by omega) (by omega) w]
 congr 3
 apply Array.ext'
 rw [toList_madeCells_one]
 exact zjp _ _
theorem zvb (k : IntKind) (n : Nat) (hn : n <= 1073741824) (w : World) :
 (Instr.makeSlice 29 (.int k (n : Int)) (.int k (n : Int))).run Tryz.prog w = .ok (.slice (some ⟨w.heap.size, 0, none⟩) n n) (w.alloc (.cells (row n (fun _ => .int .i64 0)).toArray 3)) := by
 rw [run_make_row' 29 3 (.int .i64 0) 8 Tryz.underlying29 VL rfl k k n (by omega) (by omega) w]
 congr 3
 apply Array.ext'
 rw [toList_madeCells_one]
 exact zjp _ _
theorem zuu : (Tryz.prog.info? 106).map (fun i => (i.zero, i.size, i.bytes)) = some (some (.agg (Array.replicate 25 (.string ⟨#[]⟩))), 25, 400) := by kernel_rfl
theorem Tryz.underlying105 : Tryz.prog.underlying 105 = some (.slice 106) := by kernel_rfl
theorem zei {z : Array Value} {v : Value} (n : Nat) (h0 : 0 < z.size) (h : ∀ i (hi : i < z.size), z[i] = v) : (madeCells z n).toList = List.replicate n v := by
 apply List.ext_getElem?
 intro j
 unfold madeCells
 rcases Nat.lt_or_ge j n with hj | hj
 . have h1 : j % z.size < z.size := Nat.mod_lt _ h0
   simp [hj, List.getElem?_replicate, h _ h1, getElem!_pos, h1]
 . simp [hj, List.getElem?_replicate]
theorem zno (n : Nat) : xS n (fun _ _ => []) = List.replicate (n * 25) (.string ⟨#[]⟩) := by
 rw [zjp]; rfl
theorem zu2 : (Value.agg (Array.replicate 25 (.string ⟨#[]⟩))).cells = Array.replicate 25 (.string ⟨#[]⟩) := rfl
theorem zrk (k : IntKind) (n : Nat) (hn : n <= 1000) (w : World) :
 (Instr.makeSlice 105 (.int k (n : Int)) (.int k (n : Int))).run Tryz.prog w = .ok (.slice (some ⟨w.heap.size, 0, none⟩) n n) (w.alloc (.cells (xS n (fun _ _ => [])).toArray 106)) := by
 obtain ⟨i, hi, hzz⟩ := Option.map_eq_some_iff.1 zuu
 simp only [Prod.mk.injEq] at hzz
 obtain ⟨hz, hs, hb⟩ := hzz
 rw [run_make (P := Tryz.prog) w 105 106 i _ Tryz.underlying105 hi hz k k n n (by omega) (by omega) (by rw [hb]; omega) (by omega)]
 have e : madeCells (Value.agg (Array.replicate 25 (.string ⟨#[]⟩))).cells ((n : Int).toNat * i.size) = (xS n (fun _ _ => [])).toArray := by
  apply Array.ext'
  rw [hs, zu2, zei (v := .string ⟨#[]⟩) _ (by rw [Array.size_replicate]; omega) (fun i hi => by rw [Array.getElem_replicate]), zno]
  rfl
 rw [e]
 rfl
def zsu (fx : Nat -> Option Rat) (k : Nat) : Nat -> Value := fun j => str (if j < k then zi (xC fx j) else [])
def atF (fx : Nat -> Option Rat) (asked : Nat -> Bool) (k : Nat) : Nat -> Value := fun j => .int .i64 (if j < k then zwl (YM fx asked j) else 0)
def YF (fx : Nat -> Option Rat) (asked : Nat -> Bool) (k : Nat) : List Int := (x9 (zo fx asked) k).map fun (j : Nat) => (j : Int)
def HeaM (N : Nat) (fx : Nat -> Option Rat) (asked : Nat -> Bool) (gO bO gA bA bF : Nat) (w : World) (cs : Array Value) (iv : Value) (wr : World) : Prop :=
 ∃ (k : Nat) (fv : Value), k <= N /\ iv = .int .i64 k /\ Hid (Blk wr w.heap.size 26 cs) /\ Hid (vD wr gO 28 N (zsu fx k)) /\ Hid (Blk wr bO 27 #[.slice (some ⟨gO, 0, none⟩) N N]) /\
  Hid (vD wr gA 3 N (atF fx asked k)) /\ Hid (Blk wr bA 29 #[.slice (some ⟨gA, 0, none⟩) N N]) /\ Hid (Blk wr bF 29 #[fv]) /\
  Hid (wr.ownsRow (bF + 1) 3 1 fv (yE (zo fx asked) k) (XM (YF fx asked k))) /\ Hid (Below w.heap.size w wr)
theorem zai {w : World} {base : Nat} {e : TypeId} {size : Nat} {v : Value} {n : Nat} {xs : List Value} (h : w.ownsRow base e size v n xs) {p : Addr} (hp : p.block < base) (u : Value) : (w.setCell p u).ownsRow base e size v n xs := by
 refine ⟨h.1, ?_⟩
 rcases h.2 with h0 | ⟨g, cap, cur, hv, hg, hh, r⟩
 . exact .inl h0
 . exact .inr ⟨g, cap, cur, hv, hg, (Below.heap_setCell w p u g (by omega)).trans hh, r⟩
theorem XG {w : World} {base : Nat} {e : TypeId} {size : Nat} {v : Value} {n : Nat} {xs : List Value} (h : w.ownsRow base e size v n xs) : ∃ A c, v = .slice A n c := by
 rcases h.2 with ⟨h0, h1⟩ | ⟨g, cap, cur, hv, _⟩
 . exact ⟨none, 0, by rw [h0, h1]⟩
 . exact ⟨_, _, hv⟩
theorem zmb {fx : Nat -> Option Rat} {asked : Nat -> Bool} {k : Nat} (h : ¬ ((fx k).isSome = false /\ asked k = true)) : zo fx asked k = false := by
 unfold zo
 cases hf : (fx k) with
 | some v => rfl
 | none =>
   cases ha : asked k with
   | false => rfl
   | true => exact absurd ⟨by rw [hf]; rfl, ha⟩ h
theorem zux {fx : Nat -> Option Rat} {asked : Nat -> Bool} {k : Nat} (h1 : (fx k).isSome = false) (h2 : asked k = true) : zo fx asked k = true := by
 unfold zo
 cases hf : (fx k) with
 | some v => rw [hf] at h1; cases h1
 | none => rw [h2]; rfl
theorem zp4 {fx : Nat -> Option Rat} {asked : Nat -> Bool} {k : Nat} (h : zo fx asked k = false) : YM fx asked k = none := by unfold YM; rw [h]; rfl
theorem zui {fx : Nat -> Option Rat} {asked : Nat -> Bool} {k : Nat} (h : zo fx asked k = true) : YM fx asked k = some (yE (zo fx asked) k) := by unfold YM; rw [if_pos h]
theorem zm6 {q : Rat} (h : zS 50000 q) : XH [48] (zi q) = zi (-q) := by
 have h0 : zS 50000 (0 : Rat) := Dz.short (Dz.zero 1) (by omega)
 have h1 : zS 50000 (0 - q) := by rw [show (0 : Rat) - q = -q by grind]; exact ⟨by rw [Rat.neg_num, Int.natAbs_neg]; exact h.1, by rw [Rat.neg_den]; exact h.2⟩
 unfold XH
 rw [show ([48] : List UInt8) = zi 0 from (yA.2 rfl).symm, Xe h0 h h1, show (0 : Rat) - q = -q by grind]
theorem zfg {fx : Nat -> Option Rat} {asked : Nat -> Bool} {N i : Nat} (hi : i < yE (zo fx asked) N) : (XM (YF fx asked N))[i]? = some (.int .i64 (((x9 (zo fx asked) N).getD i 0 : Nat) : Int)) := by
 have h : i < (x9 (zo fx asked) N).length := hi
 unfold XM YF
 simp [List.getElem?_map, List.getElem?_eq_getElem h, List.getD]
def zcf (m : Nat) (v : Nat -> List UInt8) (i : Nat) : Nat -> Nat -> List UInt8 := fun i' c => if i' < i then (if c = m then v i' else [48]) else []
def ziy (m : Nat) (v : Nat -> List UInt8) (i k : Nat) : Nat -> Nat -> List UInt8 := fun i' c => if i' = i /\ c < k then [48] else zcf m v i i' c
theorem zn7 (m : Nat) (v : Nat -> List UInt8) (i : Nat) : ziy m v i 0 = zcf m v i := by
 funext i' c
 unfold ziy
 rw [if_neg (by omega)]
theorem zq5 (m : Nat) (v : Nat -> List UInt8) (i k : Nat) : upd (ziy m v i k) i k [48] = ziy m v i (k + 1) := by
 funext i' c
 unfold upd ziy
 by_cases h : i' = i /\ c = k
 . rw [if_pos h, if_pos (by omega)]
 . rw [if_neg h]
   by_cases h2 : i' = i /\ c < k
   . rw [if_pos h2, if_pos (by omega)]
   . rw [if_neg h2, if_neg (by omega)]
theorem zk5 {m i : Nat} {v : Nat -> List UInt8} {x y : List UInt8} (hy : y = v i) : ∀ i' c, i' < m -> c < 25 -> upd (upd (ziy m v i 25) i m x) i m y i' c = zcf m v (i + 1) i' c := by
 intro i' c _ hc
 unfold upd ziy zcf
 by_cases h : i' = i
 . subst h
   by_cases h2 : c = m
   . rw [if_pos ⟨rfl, h2⟩, if_pos (by omega), if_pos h2, hy]
   . rw [if_neg (fun h => h2 h.2), if_neg (fun h => h2 h.2), if_pos ⟨rfl, hc⟩, if_pos (by omega), if_neg h2]
 . rw [if_neg (fun h2 => h h2.1), if_neg (fun h2 => h h2.1), if_neg (fun h2 => h h2.1)]
   by_cases h3 : i' < i
   . rw [if_pos h3, if_pos (show i' < i + 1 by omega)]
   . rw [if_neg h3, if_neg (show ¬ i' < i + 1 by omega)]
theorem zt1 (N m gA gR gO bA bR bF bO k o cF : Nat) (F : Option Addr) (rk ro : Option Nat) (c x : List UInt8) (R : Nat -> Nat -> List UInt8) (w : World) (hA : w.cell? ⟨bA, 0, none⟩ = some (.slice (some ⟨gA, 0, none⟩) N N)) (hk : k < N) (ho : o < N) (hN : N <= 1000)
 (hak : w.cell? ⟨gA, k, none⟩ = some (.int .i64 (zwl rk))) (hao : w.cell? ⟨gA, o, none⟩ = some (.int .i64 (zwl ro))) (hB : w.cell? ⟨bR, 0, none⟩ = some (.slice (some ⟨gR, 0, none⟩) m m)) (hr : ∀ r, rk = some r -> r < m) (hq : ∀ r, ro = some r -> r < m) (hF : w.cell? ⟨bF, 0, none⟩ = some (.slice F m cF)) (hO : w.cell? ⟨bO, 0, none⟩ = some (.slice (some ⟨gO, 0, none⟩) N N)) (hxo : w.cell? ⟨gO, o, none⟩ = some (str x)) (hx : zO x) (hm : m <= 24) (hR : yv w gR m R)
 (hs : ∀ i j, zO (R i j)) (hc : zO c) (d1 : bA ≠ gR) (d2 : gA ≠ gR) (d3 : bR ≠ gR) (d4 : bF ≠ gR) (d5 : bO ≠ gR) (d6 : gO ≠ gR) :
 Calls Tryz.prog 80 #[.int .i64 k, .int .i64 o, str c, .pointer (some ⟨bA, 0, none⟩), .pointer (some ⟨bR, 0, none⟩), .pointer (some ⟨bF, 0, none⟩), .pointer (some ⟨bO, 0, none⟩)] w (zdl gR m (zqq m R rk ro x c) w) := by
 cases rk with
 | none => exact zry N m gA gR bA bR bF bO k o c R w hA hk hN hak hR
 | some r =>
   cases ro with
   | none => exact zpg N m gA gR gO bA bR bF bO k o r cF F c x R w hA hk ho hN hak hao hB (hr r rfl) hF hO hxo hx hm hR hs hc d1 d2 d3 d4 d5 d6
   | some q => exact zrr N m gA gR bA bR bF bO k o r q c R w hA hk ho hN hak hao hB (hr r rfl) (hq q rfl) hm hR hs hc d1 d2 d3
theorem zvp {fx : Nat -> Option Rat} {asked : Nat -> Bool} {N k r : Nat} (hk : k < N) (h : YM fx asked k = some r) : r < yE (zo fx asked) N := by
 unfold YM at h
 by_cases hP : zo fx asked k = true
 . rw [if_pos hP] at h
   injection h with h
   rw [<- h]; exact ZH _ hk hP
 . rw [if_neg hP] at h; cases h
theorem X2.answer_dz {m E B : Nat} {A0 A : Tab} (h : X2 m A0 E m A) (hle : E * 2 ^ m <= B) {i : Nat} (hi : i < m) : Dz B (A i m / A i i) := by
 obtain ⟨t, h1, h2, h3⟩ := h.1.2.2.1.diag hi (h.1.2.1 i hi).1
 have hp : (10 : Nat) ^ (E * 2 ^ m) <= 10 ^ B := Nat.pow_le_pow_right (by omega) hle
 exact h3.sz h1 hp (Nat.le_trans h2 hp)
def zop (fx : Nat -> Option Rat) (asked : Nat -> Bool) (x : Nat -> Rat) (i : Nat) : Nat -> Value := fun j => str (if zo fx asked j = true /\ yE (zo fx asked) j < i then zi (x (yE (zo fx asked) j)) else zi (xC fx j))
theorem zpp {fx : Nat -> Option Rat} {asked : Nat -> Bool} {x : Nat -> Rat} {N : Nat} : ∀ j, j < N -> zsu fx N j = zop fx asked x 0 j := by
 intro j hj
 unfold zsu zop
 rw [if_pos hj, if_neg (by omega)]
theorem zr9 {fx : Nat -> Option Rat} {asked : Nat -> Bool} {x : Nat -> Rat} {N : Nat} : ∀ j, j < N -> zop fx asked x (yE (zo fx asked) N) j = str (zi (zi5 fx asked x j)) := by
 intro j hj
 unfold zop
 by_cases h : zo fx asked j = true
 . rw [if_pos ⟨h, ZH _ hj h⟩, ZK _ _ h]
 . rw [if_neg (fun h2 => h h2.1), Vz _ _ h]
theorem zty {fx : Nat -> Option Rat} {asked : Nat -> Bool} {x : Nat -> Rat} {N i : Nat} (hi : i < yE (zo fx asked) N) : zop fx asked x (i + 1) ((x9 (zo fx asked) N).getD i 0) = str (zi (x i)) := by
 obtain ⟨m1, m2, m3⟩ := vN _ hi
 unfold zop
 rw [if_pos ⟨m2, by omega⟩, m3]
theorem zr6 {fx : Nat -> Option Rat} {asked : Nat -> Bool} {x : Nat -> Rat} {N i : Nat} (hi : i < yE (zo fx asked) N) : ∀ j, j < N -> j ≠ (x9 (zo fx asked) N).getD i 0 -> zop fx asked x (i + 1) j = zop fx asked x i j := by
 intro j hj hne
 unfold zop
 congr 1
 by_cases h : zo fx asked j = true
 . have h2 : yE (zo fx asked) j ≠ i := by
    intro e; have := XC _ hj h; rw [e] at this; exact hne this.symm
   by_cases h3 : yE (zo fx asked) j < i
   . rw [if_pos ⟨h, by omega⟩, if_pos ⟨h, h3⟩]
   . rw [if_neg (fun h4 => by omega), if_neg (fun h4 => h3 h4.2)]
 . rw [if_neg (fun h2 => h h2.1), if_neg (fun h2 => h h2.1)]
def HeaO (fx : Nat -> Option Rat) (asked : Nat -> Bool) (x : Nat -> Rat) (N m gO bO bF B8 : Nat) (Af A8 : Option Addr) (cf c8 : Nat) (w : World) (iv : Value) (wr : World) : Prop :=
 ∃ i : Nat, i <= m /\ iv = .int .i64 i /\ Hid (vD wr gO 28 N (zop fx asked x i)) /\ Hid (Blk wr bO 27 #[.slice (some ⟨gO, 0, none⟩) N N]) /\ Hid (Blk wr bF 29 #[.slice Af m cf]) /\
  Hid (wr.ownsRow (bF + 1) 3 1 (.slice Af m cf) m (XM (YF fx asked N))) /\ Hid (wr.ownsRow B8 28 1 (.slice A8 m c8) m ((List.range m).map fun i => str (zi (x i)))) /\ Hid (Below w.heap.size w wr)
def HeaP (n : Net) (c : Nat -> Rat) (fx : Nat -> Option Rat) (wl : Nat -> Rat) (asked : Nat -> Bool) (N m : Nat) (WF : World) (iv : Value) (wr : World) : Prop :=
 ∃ i : Nat, i <= n.pipes.length /\ iv = .int .i64 i /\ Hid (yv wr WF.heap.size m (txt (Zi n.pf n.pt c fx wl asked N i))) /\ Hid (Blk wr (WF.heap.size + 1) 105 #[.slice (some ⟨WF.heap.size, 0, none⟩) m m]) /\ Hid (Below WF.heap.size WF wr)
def HeaR (m : Nat) (v : Nat -> List UInt8) (WF : World) (iv : Value) (wr : World) : Prop :=
 ∃ i : Nat, i <= m /\ iv = .int .i64 i /\ Hid (yv wr WF.heap.size m (zcf m v i)) /\ Hid (Blk wr (WF.heap.size + 1) 105 #[.slice (some ⟨WF.heap.size, 0, none⟩) m m]) /\ Hid (Below WF.heap.size WF wr)
def HeaC (m : Nat) (v : Nat -> List UInt8) (i : Nat) (WF : World) (cv : Value) (wr : World) : Prop :=
 ∃ k : Nat, k <= 25 /\ cv = .int .i64 k /\ Hid (yv wr WF.heap.size m (ziy m v i k)) /\ Hid (Blk wr (WF.heap.size + 1) 105 #[.slice (some ⟨WF.heap.size, 0, none⟩) m m]) /\ Hid (Below WF.heap.size WF wr)
def zoy (n : Net) (c : Nat -> Rat) (fx : Nat -> Option Rat) (wl : Nat -> Rat) (asked : Nat -> Bool) (w : World) (e : Ending) (w' : World) : Prop :=
 ∃ (A : Option Addr) (cap : Nat) (h : Nat -> Rat), e = .returned (.slice A n.nodes.length cap) /\ cap = n.nodes.length /\ vV n.nodes.length n.pipes.length n.pf n.pt c fx wl asked h /\ (∀ k, k < n.nodes.length -> Dz 13000 (h k)) /\
  zD w' w'.heap.size 1 A n.nodes.length (row n.nodes.length fun k => str (zi (h k))) /\ Below w.heap.size w w'
theorem zk8 (vn vc vh vw vb : Value) (n : Net) (cs : List (List UInt8)) (hl wll : List yI) (bs : List Bool) (c : Nat -> Rat) (fx : Nat -> Option Rat) (wl : Nat -> Rat) (w : World) (hn : Zq w vn n) (hc : yJ w vc cs) (hh : yh w vh hl) (hw : yh w vw wll) (hb : ZG w vb bs)
 (hcl : cs.length = n.pipes.length) (hct : ∀ i (h : i < cs.length), cs[i] = zi (c i)) (hfx : ∀ k, k < n.nodes.length -> Y7 hl (k : Int) = zi (xC fx k) /\ (hl.find? (fun v => v.node == (k : Int))).isSome = (fx k).isSome)
 (hwl : ∀ k, k < n.nodes.length -> Y7 wll (k : Int) = zi (wl k)) (hbl : bs.length = n.nodes.length) (he : n.Ends) (hg : xh n.nodes.length n.pipes.length n.pf n.pt c fx wl (fun k => bs.getD k false)) :
 Calls Tryz.prog 36 #[vn, vc, vh, vw, vb] w (zoy n c fx wl (fun k => bs.getD k false) w) := by
 obtain ⟨A0, k0, c0, A1, k1, c1, A2, k2, c2, A3, k3, c3, rfl, hn0, hn1, hn2, hn3⟩ := hn
 have hk0 : k0 = n.nodes.length := by obtain ⟨A', c', e, _⟩ := hn0; injection e
 have hk1 : k1 = n.pipes.length := by obtain ⟨A', c', e, _⟩ := hn1; injection e
 obtain ⟨Ab, cb, rfl, hb1, hb2, hbr⟩ := hb
 rw [hbl] at hb1 hbr
 rw [hbl]
 rw [<- hk0] at hb1 hbr
 rw [<- hk0]
 obtain ⟨Ac, cc, rfl, hc1, hc2, hc3, hcr, hcs⟩ := hc
 rw [hcl, <- hk1] at hc1 hcr
 rw [hcl, <- hk1]
 obtain ⟨asked, hask⟩ : ∃ a, a = fun k => bs.getD k false := ⟨_, rfl⟩
 rw [<- hask] at hg |-
 have HASK := ze hask
 have HG := ze hg
 have hgk := hg
 rw [<- hk0, <- hk1] at hgk
 have HGK := ze hgk
 clear hgk
 have hN6 : k0 <= 6 := by have := hg.hN; omega
 have hP9 : k1 <= 9 := by have := hg.hp; omega
 have hlv := fun k (h : k < n.nodes.length) w' (hB : Below w.heap.size w w') => zcw vh hl (k : Int) w' (hh.below hB)
 have hlw := fun k (h : k < n.nodes.length) w' (hB : Below w.heap.size w w') => zcw vw wll (k : Int) w' (hw.below hB)
 unfold zt7 at hlv hlw
 have hlv2 := fun k (h : k < n.nodes.length) w' (hB : Below w.heap.size w w') => (by have := hlv k h w' hB; rw [(hfx k h).1, (hfx k h).2] at this; exact this : Calls Tryz.prog 79 #[vh, .int .i64 k] w' (fun e w'' => e = .returned (.tuple #[str (zi (xC fx k)), .bool (fx k).isSome]) /\ Below w'.heap.size w' w''))
 have hlw2 := fun k (h : k < n.nodes.length) w' (hB : Below w.heap.size w w') => (by have := hlw k h w' hB; rw [hwl k h] at this; exact this : Calls Tryz.prog 79 #[vw, .int .i64 k] w' (fun e w'' => e = .returned (.tuple #[str (zi (wl k)), .bool (wll.find? (fun v => v.node == (k : Int))).isSome]) /\ Below w'.heap.size w' w''))
 have HLV := ze hlv2
 have HLW := ze hlw2
 clear hlv hlw hlv2 hlw2 hfx hwl hh hw hask hg
 have HN1 := ze hn1
 have HK0 := ze hk0
 have HK1 := ze hk1
 have HEN := ze he
 have HBR := ze hbr
 have HCR := ze hcr
 have HCT := ze hct
 have HCL := ze hcl
 have HBL := ze hbl
 clear hn0 hn1 hn2 hn3 hk0 hk1 he hbr hcr hct hcl hcs hb2 hc2 hbl
 obtain ⟨i0, hi0, hz0, hz1, hz2⟩ := info_parts VL
 have hmk1 := fun w => zs5 .i64 k0 (by omega) w
 have hmk2 := fun w => zvb .i64 k0 (by omega) w
 have hx0 := Blk.new w 26 #[.slice A0 k0 c0, .slice A1 k1 c1, .slice A2 k2 c2, .slice A3 k3 c3]
 obtain ⟨r0, r1, -, -, rL⟩ := yG hx0
 go_enter Tryz.func36, Tryz.ntmps36
 go_wp2_with fail
 clear hmk1 hmk2 r0 r1 rL hx0
 have hK : Blk ((((((w.alloc (.cells #[.slice A0 k0 c0, .slice A1 k1 c1, .slice A2 k2 c2, .slice A3 k3 c3] 26)).alloc (.cells (row k0 fun _ => str []).toArray 28)).alloc (.cells #[.slice (some ⟨w.heap.size + 1, 0, none⟩) k0 k0] 27)).alloc (.cells (row k0 fun _ => .int .i64 0).toArray 3)).alloc (.cells #[.slice (some ⟨w.heap.size + 1 + 1 + 1, 0, none⟩) k0 k0] 29)).alloc (.cells #[.slice none 0 0] 29)) w.heap.size 26 #[.slice A0 k0 c0, .slice A1 k1 c1, .slice A2 k2 c2, .slice A3 k3 c3] := (((((Blk.new w _ _).alloc _).alloc _).alloc _).alloc _).alloc _
 have hRO : vD ((((((w.alloc (.cells #[.slice A0 k0 c0, .slice A1 k1 c1, .slice A2 k2 c2, .slice A3 k3 c3] 26)).alloc (.cells (row k0 fun _ => str []).toArray 28)).alloc (.cells #[.slice (some ⟨w.heap.size + 1, 0, none⟩) k0 k0] 27)).alloc (.cells (row k0 fun _ => .int .i64 0).toArray 3)).alloc (.cells #[.slice (some ⟨w.heap.size + 1 + 1 + 1, 0, none⟩) k0 k0] 29)).alloc (.cells #[.slice none 0 0] 29)) (w.heap.size + 1) 28 k0 (zsu fx 0) := by
  have h := ((((Blk.new (w.alloc (.cells #[.slice A0 k0 c0, .slice A1 k1 c1, .slice A2 k2 c2, .slice A3 k3 c3] 26)) 28 (row k0 fun _ => str []).toArray).alloc (.cells #[.slice (some ⟨w.heap.size + 1, 0, none⟩) k0 k0] 27)).alloc (.cells (row k0 fun _ => .int .i64 0).toArray 3)).alloc (.cells #[.slice (some ⟨w.heap.size + 1 + 1 + 1, 0, none⟩) k0 k0] 29)).alloc (.cells #[.slice none 0 0] 29)
  simp only [World.size_alloc] at h
  exact vD.congr (f := fun _ => str []) h (fun k _ => by unfold zsu; rw [if_neg (by omega)])
 have hBO : Blk ((((((w.alloc (.cells #[.slice A0 k0 c0, .slice A1 k1 c1, .slice A2 k2 c2, .slice A3 k3 c3] 26)).alloc (.cells (row k0 fun _ => str []).toArray 28)).alloc (.cells #[.slice (some ⟨w.heap.size + 1, 0, none⟩) k0 k0] 27)).alloc (.cells (row k0 fun _ => .int .i64 0).toArray 3)).alloc (.cells #[.slice (some ⟨w.heap.size + 1 + 1 + 1, 0, none⟩) k0 k0] 29)).alloc (.cells #[.slice none 0 0] 29)) (w.heap.size + 1 + 1) 27 #[.slice (some ⟨w.heap.size + 1, 0, none⟩) k0 k0] := by
  have h := (((Blk.new ((w.alloc (.cells #[.slice A0 k0 c0, .slice A1 k1 c1, .slice A2 k2 c2, .slice A3 k3 c3] 26)).alloc (.cells (row k0 fun _ => str []).toArray 28)) 27 #[.slice (some ⟨w.heap.size + 1, 0, none⟩) k0 k0]).alloc (.cells (row k0 fun _ => .int .i64 0).toArray 3)).alloc (.cells #[.slice (some ⟨w.heap.size + 1 + 1 + 1, 0, none⟩) k0 k0] 29)).alloc (.cells #[.slice none 0 0] 29)
  simp only [World.size_alloc] at h
  exact h
 have hRA : vD ((((((w.alloc (.cells #[.slice A0 k0 c0, .slice A1 k1 c1, .slice A2 k2 c2, .slice A3 k3 c3] 26)).alloc (.cells (row k0 fun _ => str []).toArray 28)).alloc (.cells #[.slice (some ⟨w.heap.size + 1, 0, none⟩) k0 k0] 27)).alloc (.cells (row k0 fun _ => .int .i64 0).toArray 3)).alloc (.cells #[.slice (some ⟨w.heap.size + 1 + 1 + 1, 0, none⟩) k0 k0] 29)).alloc (.cells #[.slice none 0 0] 29)) (w.heap.size + 1 + 1 + 1) 3 k0 (atF fx asked 0) := by
  have h := ((Blk.new (((w.alloc (.cells #[.slice A0 k0 c0, .slice A1 k1 c1, .slice A2 k2 c2, .slice A3 k3 c3] 26)).alloc (.cells (row k0 fun _ => str []).toArray 28)).alloc (.cells #[.slice (some ⟨w.heap.size + 1, 0, none⟩) k0 k0] 27)) 3 (row k0 fun _ => .int .i64 0).toArray).alloc (.cells #[.slice (some ⟨w.heap.size + 1 + 1 + 1, 0, none⟩) k0 k0] 29)).alloc (.cells #[.slice none 0 0] 29)
  simp only [World.size_alloc] at h
  exact vD.congr (f := fun _ => .int .i64 0) h (fun k _ => by unfold atF; rw [if_neg (by omega)])
 have hBA : Blk ((((((w.alloc (.cells #[.slice A0 k0 c0, .slice A1 k1 c1, .slice A2 k2 c2, .slice A3 k3 c3] 26)).alloc (.cells (row k0 fun _ => str []).toArray 28)).alloc (.cells #[.slice (some ⟨w.heap.size + 1, 0, none⟩) k0 k0] 27)).alloc (.cells (row k0 fun _ => .int .i64 0).toArray 3)).alloc (.cells #[.slice (some ⟨w.heap.size + 1 + 1 + 1, 0, none⟩) k0 k0] 29)).alloc (.cells #[.slice none 0 0] 29)) (w.heap.size + 1 + 1 + 1 + 1) 29 #[.slice (some ⟨w.heap.size + 1 + 1 + 1, 0, none⟩) k0 k0] := by
  have h := (Blk.new ((((w.alloc (.cells #[.slice A0 k0 c0, .slice A1 k1 c1, .slice A2 k2 c2, .slice A3 k3 c3] 26)).alloc (.cells (row k0 fun _ => str []).toArray 28)).alloc (.cells #[.slice (some ⟨w.heap.size + 1, 0, none⟩) k0 k0] 27)).alloc (.cells (row k0 fun _ => .int .i64 0).toArray 3)) 29 #[.slice (some ⟨w.heap.size + 1 + 1 + 1, 0, none⟩) k0 k0]).alloc (.cells #[.slice none 0 0] 29)
  simp only [World.size_alloc] at h
  exact h
 have hBF : Blk ((((((w.alloc (.cells #[.slice A0 k0 c0, .slice A1 k1 c1, .slice A2 k2 c2, .slice A3 k3 c3] 26)).alloc (.cells (row k0 fun _ => str []).toArray 28)).alloc (.cells #[.slice (some ⟨w.heap.size + 1, 0, none⟩) k0 k0] 27)).alloc (.cells (row k0 fun _ => .int .i64 0).toArray 3)).alloc (.cells #[.slice (some ⟨w.heap.size + 1 + 1 + 1, 0, none⟩) k0 k0] 29)).alloc (.cells #[.slice none 0 0] 29)) (w.heap.size + 1 + 1 + 1 + 1 + 1) 29 #[.slice none 0 0] := by
  have h := Blk.new (((((w.alloc (.cells #[.slice A0 k0 c0, .slice A1 k1 c1, .slice A2 k2 c2, .slice A3 k3 c3] 26)).alloc (.cells (row k0 fun _ => str []).toArray 28)).alloc (.cells #[.slice (some ⟨w.heap.size + 1, 0, none⟩) k0 k0] 27)).alloc (.cells (row k0 fun _ => .int .i64 0).toArray 3)).alloc (.cells #[.slice (some ⟨w.heap.size + 1 + 1 + 1, 0, none⟩) k0 k0] 29)) 29 #[.slice none 0 0]
  simp only [World.size_alloc] at h
  exact h
 have hW : Below w.heap.size w ((((((w.alloc (.cells #[.slice A0 k0 c0, .slice A1 k1 c1, .slice A2 k2 c2, .slice A3 k3 c3] 26)).alloc (.cells (row k0 fun _ => str []).toArray 28)).alloc (.cells #[.slice (some ⟨w.heap.size + 1, 0, none⟩) k0 k0] 27)).alloc (.cells (row k0 fun _ => .int .i64 0).toArray 3)).alloc (.cells #[.slice (some ⟨w.heap.size + 1 + 1 + 1, 0, none⟩) k0 k0] 29)).alloc (.cells #[.slice none 0 0] 29)) := ext (ext (ext (ext (ext (zg w _) (zg _ _)) (zg _ _)) (zg _ _)) (zg _ _)) (zg _ _)
 have HK := ze hK
 have HRO := ze hRO
 have HBO := ze hBO
 have HRA := ze hRA
 have HBA := ze hBA
 have HBF := ze hBF
 have HW := ze hW
 clear hK hRO hBO hRA hBA hBF hW
 generalize ((((((w.alloc (.cells #[.slice A0 k0 c0, .slice A1 k1 c1, .slice A2 k2 c2, .slice A3 k3 c3] 26)).alloc (.cells (row k0 fun _ => str []).toArray 28)).alloc (.cells #[.slice (some ⟨w.heap.size + 1, 0, none⟩) k0 k0] 27)).alloc (.cells (row k0 fun _ => .int .i64 0).toArray 3)).alloc (.cells #[.slice (some ⟨w.heap.size + 1 + 1 + 1, 0, none⟩) k0 k0] 29)).alloc (.cells #[.slice none 0 0] 29)) = WS at HK HRO HBO HRA HBA HBF HW |-
 have HB : Hid (w.heap.size < w.heap.size + 1 /\ w.heap.size + 1 < w.heap.size + 1 + 1 /\ w.heap.size + 1 + 1 < w.heap.size + 1 + 1 + 1 /\ w.heap.size + 1 + 1 + 1 < w.heap.size + 1 + 1 + 1 + 1 /\ w.heap.size + 1 + 1 + 1 + 1 < w.heap.size + 1 + 1 + 1 + 1 + 1) := ⟨by omega, by omega, by omega, by omega, by omega⟩
 generalize w.heap.size + 1 + 1 + 1 + 1 + 1 = bF at HB HBF |-
 generalize w.heap.size + 1 + 1 + 1 + 1 = bA at HB HBA |-
 generalize w.heap.size + 1 + 1 + 1 = gA at HB HRA HBA |-
 generalize w.heap.size + 1 + 1 = bO at HB HBO |-
 generalize w.heap.size + 1 = gO at HB HRO HBO |-
 have HR0 : Hid (WS.ownsRow (bF + 1) 3 1 (.slice none 0 0) (yE (zo fx asked) 0) (XM (YF fx asked 0))) := ze (World.ownsRow_nil _ _ _ _)
 go_loopw [37] (HeaM k0 fx asked gO bO gA bA bF w #[.slice A0 k0 c0, .slice A1 k1 c1, .slice A2 k2 c2, .slice A3 k3 c3]) (fun iv _ => k0 - (intOf iv).toNat)
 case atStart => exact ⟨0, _, Nat.zero_le _, rfl, HK, HRO, HBO, HRA, HBA, HBF, HR0, HW⟩
 case round =>
  clear HK HRO HBO HRA HBA HBF HR0 HW
  obtain ⟨k, fv, hk, rfl, HK, HRO, HBO, HRA, HBA, HBF, HFO, HW⟩ := hrel
  by_cases hlt : k < k0
  . have hkN : k < n.nodes.length := by have := HK0.out; omega
    have hki : (k : Int) < (k0 : Int) := by omega
    have hl := HLV.out k hkN; obtain ⟨x, hx⟩ : ∃ x, x = zi (xC fx k) := ⟨_, rfl⟩; obtain ⟨b, hbq⟩ : ∃ b, b = (fx k).isSome := ⟨_, rfl⟩; rw [<- hx, <- hbq] at hl; have HX := ze hx; have HBQ := ze hbq; clear hx hbq; obtain ⟨r0, r1, r2, r3, rL⟩ := yG HK.out; obtain ⟨o0, oL⟩ := zbk HBO.out; obtain ⟨a0, aL⟩ := zbk HBA.out; obtain ⟨f0, fL⟩ := zbk HBF.out; go_wp2_with fail; refine (hl _ HW.out).mono ?_; rintro e WN ⟨rfl, hbB⟩
    try clear r0 r1 r2 r3 rL o0 oL a0 aL f0 fL
    replace HK := kb_ HK hbB; replace HBO := kb_ HBO hbB; replace HBA := kb_ HBA hbB; replace HBF := kb_ HBF hbB; replace HRO := ze (HRO.out.below hbB); replace HRA := ze (HRA.out.below hbB); replace HFO := ze (xU HFO.out hbB); replace HW := eb_ HW hbB; clear hbB; obtain ⟨r0, r1, r2, r3, rL⟩ := yG HK.out; obtain ⟨o0, oL⟩ := zbk HBO.out; obtain ⟨a0, aL⟩ := zbk HBA.out; obtain ⟨f0, fL⟩ := zbk HBF.out; clear hl; have co := HRO.out.cell hlt; have ca := HRA.out.cell hlt; have fo := HRO.out.frozen k; have fa := HRA.out.frozen k; have lo := HRO.out.lt; have la := HRA.out.lt; have d1 : ¬ gO = bA := by have := HB.out; omega
    have d2 : ¬ gO = gA := by have := HB.out; omega
    go_wp2_with fail
    go_region
    have hRO2 := (HRO.out.set_ (k := k) (v := str x) (f' := zsu fx (k + 1)) (by unfold zsu; rw [if_pos (by omega), HX.out]) (fun j _ hj => by unfold zsu; congr 1; by_cases h : j < k; rw [if_pos h, if_pos (by omega)]; rw [if_neg h, if_neg (by omega)])).far (p := ⟨gA, k, none⟩) (show gO ≠ gA by omega) (.int .i64 (-1)); have hRA2 := (HRA.out.far (p := ⟨gO, k, none⟩) (show gA ≠ gO by omega) (str x)).set_ (k := k) (v := .int .i64 (-1)) (f' := fun j => if j = k then .int .i64 (-1) else atF fx asked k j) (if_pos rfl) (fun j _ hj => if_neg hj); have hK2 := (HK.out.far (p := ⟨gO, k, none⟩) (show w.heap.size ≠ gO by have := HB.out; omega) (str x)).far (p := ⟨gA, k, none⟩) (show w.heap.size ≠ gA by have := HB.out; omega) (.int .i64 (-1)); have hBO2 := (HBO.out.far (p := ⟨gO, k, none⟩) (show bO ≠ gO by have := HB.out; omega) (str x)).far (p := ⟨gA, k, none⟩) (show bO ≠ gA by have := HB.out; omega) (.int .i64 (-1)); have hBA2 := (HBA.out.far (p := ⟨gO, k, none⟩) (show bA ≠ gO by have := HB.out; omega) (str x)).far (p := ⟨gA, k, none⟩) (show bA ≠ gA by have := HB.out; omega) (.int .i64 (-1))
    have hBF2 := (HBF.out.far (p := ⟨gO, k, none⟩) (show bF ≠ gO by have := HB.out; omega) (str x)).far (p := ⟨gA, k, none⟩) (show bF ≠ gA by have := HB.out; omega) (.int .i64 (-1)); have hFO2 := zai (zai HFO.out (p := ⟨gO, k, none⟩) (show gO < bF + 1 by have := HB.out; omega) (str x)) (p := ⟨gA, k, none⟩) (show gA < bF + 1 by have := HB.out; omega) (.int .i64 (-1)); have hW2 := (HW.out.setCell (p := ⟨gO, k, none⟩) (show w.heap.size <= gO by have := HB.out; omega) (str x)).setCell (p := ⟨gA, k, none⟩) (show w.heap.size <= gA by have := HB.out; omega) (.int .i64 (-1)); clear co ca fo fa lo la r0 r1 r2 r3 rL o0 oL a0 aL f0 fL HK HRO HBO HRA HBA HBF HFO HW; have HRO := ze hRO2; have HRA := ze hRA2; have HK := ze hK2; have HBO := ze hBO2; have HBA := ze hBA2; have HBF := ze hBF2; have HFO := ze hFO2; have HW := ze hW2; clear hRO2 hRA2 hK2 hBO2 hBA2 hBF2 hFO2 hW2; generalize ((WN.setCell ⟨gO, k, none⟩ (str x)).setCell ⟨gA, k, none⟩ (.int .i64 (-1))) = WA at HK HRO HBO HRA HBA HBF HFO HW |-; have hdr : Below WA.heap.size WA WA.drew := zp WA 1; replace HK := kb_ HK hdr; replace HBO := kb_ HBO hdr; replace HBA := kb_ HBA hdr; replace HBF := kb_ HBF hdr
    replace HRO := ze (HRO.out.below hdr); replace HRA := ze (HRA.out.below hdr); replace HFO := ze (xU HFO.out hdr); replace HW := eb_ HW hdr; generalize WA.drew = WB at hdr HK HRO HBO HRA HBA HBF HFO HW |-; clear hdr; obtain ⟨r0, r1, r2, r3, rL⟩ := yG HK.out; obtain ⟨o0, oL⟩ := zbk HBO.out; obtain ⟨a0, aL⟩ := zbk HBA.out; obtain ⟨f0, fL⟩ := zbk HBF.out
    cases b with
    | true =>
      have HNF : Hid (zo fx asked k = false) := ze (zmb (fun h => by rw [<- HBQ.out] at h; cases h.1))
      have HRA2 : Hid (vD WB gA 3 k0 (atF fx asked (k + 1))) := ze (HRA.out.congr (fun j _ => by
       unfold atF
       by_cases h : j = k
       . rw [if_pos h, if_pos (by omega), h, zp4 HNF.out]; rfl
       . rw [if_neg h]; congr 1
         by_cases h2 : j < k
         . rw [if_pos h2, if_pos (by omega)]
         . rw [if_neg h2, if_neg (by omega)]))
      have HFO2 : Hid (WB.ownsRow (bF + 1) 3 1 fv (yE (zo fx asked) (k + 1)) (XM (YF fx asked (k + 1)))) := ze (by
       have h := HFO.out; rw [YD, HNF.out]; unfold YF; rw [ZS, HNF.out]
       simpa [YF] using h)
      go_wp2_with fail; go_round
      case rel => exact ⟨k + 1, fv, by omega, by go_num, HK, HRO, HBO, HRA2, HBA, HBF, HFO2, HW⟩
      case measure => simp [intOf]; omega
    | false =>
      have hkb : k < bs.length := by have := HBL.out; omega
      obtain ⟨ad, e1, hbb, q0⟩ : ∃ ad, Ab = some ad /\ ad.block < WB.heap.size /\ WB.cell? (ad.add k) = some (.bool bs[k]) := by
       obtain ⟨ad, e1, hb, hc⟩ := (HBR.out.below HW.out).2 (by omega); exact ⟨ad, e1, Nat.lt_of_lt_of_le hb HW.out.size, hc k _ (by simp [xZ, hkb])⟩
      subst e1; have hak : asked k = bs[k] := by rw [HASK.out]; simp [List.getD, List.getElem?_eq_getElem hkb]
      have HAK := ze hak; clear hak hbb
      cases hbk : bs[k] with
      | false =>
        rw [hbk] at q0; have HNF : Hid (zo fx asked k = false) := ze (zmb (fun h => by rw [HAK.out, hbk] at h; cases h.2))
        have HRA2 : Hid (vD WB gA 3 k0 (atF fx asked (k + 1))) := ze (HRA.out.congr (fun j _ => by
         unfold atF
         by_cases h : j = k
         . rw [if_pos h, if_pos (by omega), h, zp4 HNF.out]; rfl
         . rw [if_neg h]; congr 1
           by_cases h2 : j < k
           . rw [if_pos h2, if_pos (by omega)]
           . rw [if_neg h2, if_neg (by omega)]))
        have HFO2 : Hid (WB.ownsRow (bF + 1) 3 1 fv (yE (zo fx asked) (k + 1)) (XM (YF fx asked (k + 1)))) := ze (by
         have h := HFO.out; rw [YD, HNF.out]; unfold YF; rw [ZS, HNF.out]
         simpa [YF] using h)
        clear hbk; go_wp2_with fail; go_round
        case rel => exact ⟨k + 1, fv, by omega, by go_num, HK, HRO, HBO, HRA2, HBA, HBF, HFO2, HW⟩
        case measure => simp [intOf]; omega
      | true =>
        rw [hbk] at q0; have HYF : Hid (zo fx asked k = true) := ze (zux HBQ.out.symm (by rw [HAK.out, hbk])); clear hbk; obtain ⟨m, hm⟩ : ∃ m, m = yE (zo fx asked) k := ⟨_, rfl⟩; rw [<- hm] at HFO; have HM := ze hm; have hm6 : m <= k := by rw [hm]; exact rank_le _ _
        clear hm; obtain ⟨Af, cf, hfv⟩ := XG HFO.out; subst hfv; have ca := HRA.out.cell hlt; have fa := HRA.out.frozen k; have la := HRA.out.lt; have ff := HBF.out.frozen 0; have d3 : ¬ gA = bF := by have := HB.out; omega
        have d4 : ¬ gA = bA := by have := HB.out; omega
        have hne : w.heap.size ≠ gA /\ w.heap.size ≠ bF /\ bO ≠ gA /\ bO ≠ bF /\ bA ≠ gA /\ bA ≠ bF /\ bF ≠ gA /\ gO ≠ gA /\ gO ≠ bF /\ gA ≠ bF /\ gA < bF + 1 /\ w.heap.size <= gA /\ w.heap.size <= bF := by have := HB.out; omega
        have HNE := ze hne
        have HRA1 : Hid (vD (WB.setCell ⟨gA, k, none⟩ (.int .i64 (m : Int))) gA 3 k0 (atF fx asked (k + 1))) := ze (HRA.out.set_ (by unfold atF; rw [if_pos (by omega), zui HYF.out, <- HM.out]; rfl) (fun j _ hj => by
         rw [if_neg hj]; unfold atF
         congr 1
         by_cases h2 : j < k
         . rw [if_pos h2, if_pos (by omega)]
         . rw [if_neg h2, if_neg (by omega)]))
        have HK1 := ze (HK.out.far (p := ⟨gA, k, none⟩) hne.1 (.int .i64 (m : Int))); have HBO1 := ze (HBO.out.far (p := ⟨gA, k, none⟩) hne.2.2.1 (.int .i64 (m : Int))); have HBA1 := ze (HBA.out.far (p := ⟨gA, k, none⟩) hne.2.2.2.2.1 (.int .i64 (m : Int))); have HBF1 := ze (HBF.out.far (p := ⟨gA, k, none⟩) hne.2.2.2.2.2.2.1 (.int .i64 (m : Int))); have HRO1 := ze (HRO.out.far (p := ⟨gA, k, none⟩) hne.2.2.2.2.2.2.2.1 (.int .i64 (m : Int))); have HFO1 := ze (zai HFO.out (p := ⟨gA, k, none⟩) hne.2.2.2.2.2.2.2.2.2.2.1 (.int .i64 (m : Int))); have HW1 := ze (HW.out.setCell (p := ⟨gA, k, none⟩) hne.2.2.2.2.2.2.2.2.2.2.2.1 (.int .i64 (m : Int))); have hlo : bF < (WB.setCell ⟨gA, k, none⟩ (.int .i64 (m : Int))).heap.size := HBF1.out.lt; clear hne
        have h1c : ∀ u ∈ [Value.int .i64 (k : Int)], u.oneCell' = true := by
         intro u hu; rw [List.mem_singleton] at hu; subst hu; rfl
        have hrd := yX (WB.setCell ⟨gA, k, none⟩ (.int .i64 (m : Int))) 3 (.int .i64 (k : Int)); have hsz : (WB.setCell ⟨gA, k, none⟩ (.int .i64 (m : Int))).heap.size = WB.heap.size := by simp
        rw [hsz] at hrd hlo; go_wp2_with (at_builtin; refine zB _ rfl (.tmp 66) (.tmp 68) _ rfl (bF + 1) 3 i0 _ 1 8 Tryz.underlying29 hi0 hz0 hz1 hz2 rfl (by omega) _ m _ rfl (HFO1.out.alloc _) _ (some ⟨WB.heap.size, 0, none⟩) 1 1 _ rfl hrd h1c ?o2 ?o3 ?o4 ?_)
        case o2 => unfold maxLen; omega
        case o3 => omega
        case o4 => omega
        intro v3 w3 hown3 hgr3 hat3; have hge := zg4 HFO1.out; have hx := zg (WB.setCell ⟨gA, k, none⟩ (.int .i64 (m : Int))) (.cells #[.int .i64 (k : Int)] 3); have HK3 := ze ((HK1.out.below hx HK1.out.lt).grown hgr3 (fun e => by have := hge _ e.symm; have := HB.out; omega)); have HBO3 := ze ((HBO1.out.below hx HBO1.out.lt).grown hgr3 (fun e => by have := hge _ e.symm; have := HB.out; omega)); have HBA3 := ze ((HBA1.out.below hx HBA1.out.lt).grown hgr3 (fun e => by have := hge _ e.symm; have := HB.out; omega)); have HBF3 := ze ((HBF1.out.below hx HBF1.out.lt).grown hgr3 (fun e => by have := hge _ e.symm; have := HB.out; omega)); have HRO3 := ze ((HRO1.out.below hx).grown hgr3 (fun e => by have := hge _ e.symm; have := HB.out; omega)); have HRA3 := ze ((HRA1.out.below hx).grown hgr3 (fun e => by have := hge _ e.symm; have := HB.out; omega)); have HW3 := ze ((ext HW1.out hx).grown hgr3 (by have := HW1.out.size; simp only [World.size_alloc]; omega) (fun k hk => by have := hge k hk; have := HB.out; omega))
        have HFO3 : Hid (w3.ownsRow (bF + 1) 3 1 v3 (yE (zo fx asked) (k + 1)) (XM (YF fx asked (k + 1)))) := ze (by
         rw [YD, if_pos HYF.out, <- HM.out]; unfold YF; rw [ZS, if_pos HYF.out]; unfold XM at hown3 |-; rw [List.map_append, List.map_append]
         exact hown3)
        clear HK1 HBO1 HBA1 HBF1 HRO1 HRA1 HFO1 HW1 HK HBO HBA HBF HRO HRA HFO HW hown3 hgr3 hat3 hge hx hrd h1c ca fa la ff f0 fL a0 aL o0 oL r0 r1 r2 r3 rL q0; obtain ⟨A9, c9, hv3⟩ := XG HFO3.out; subst hv3; have ff := HBF3.out.frozen 0; have fl := HBF3.out.lt; have f0 := HBF3.out.cell 0; simp at f0; go_wp2_with fail; go_round
        case rel => exact ⟨k + 1, _, by omega, by go_num, HK3.out.far HNE.out.2.1 _, HRO3.out.far HNE.out.2.2.2.2.2.2.2.2.1 _, HBO3.out.far HNE.out.2.2.2.1 _, HRA3.out.far HNE.out.2.2.2.2.2.2.2.2.2.1 _, HBA3.out.far HNE.out.2.2.2.2.2.1 _, HBF3.out.set_ 0 _, zai HFO3.out (Nat.lt_succ_self _) _, HW3.out.setCell HNE.out.2.2.2.2.2.2.2.2.2.2.2.2 _⟩
        case measure => simp [intOf]; omega
  . obtain rfl : k0 = k := by omega
    clear hlt hk; obtain ⟨m, hm⟩ : ∃ m, m = yE (zo fx asked) k0 := ⟨_, rfl⟩; rw [<- hm] at HFO; have HM := ze hm; have hm6 : m <= 6 := by have := rank_le (zo fx asked) k0; omega
    clear hm; obtain ⟨Af, cf, hfv⟩ := XG HFO.out; subst hfv
    have hmc : m <= cf := by
     rcases HFO.out.2 with ⟨h0, h1⟩ | ⟨g, cap, cur, hv, hg, hh, r⟩
     . injection h0 with _ _ h3; omega
     . injection hv with _ _ h3; have := r.1; omega
    have hmk3 := fun w => zrk .i64 m (by omega) w
    obtain ⟨r0, r1, r2, r3, rL⟩ := yG HK.out; obtain ⟨o0, oL⟩ := zbk HBO.out; obtain ⟨a0, aL⟩ := zbk HBA.out; obtain ⟨f0, fL⟩ := zbk HBF.out; go_wp2_with fail; clear hmk3; have hR : yv ((wr.alloc (.cells (xS m (fun _ _ => [])).toArray 106)).alloc (.cells #[.slice (some ⟨wr.heap.size, 0, none⟩) m m] 105)) wr.heap.size m (fun _ _ => []) := (Blk.new wr _ _).alloc _
    have hBR : Blk ((wr.alloc (.cells (xS m (fun _ _ => [])).toArray 106)).alloc (.cells #[.slice (some ⟨wr.heap.size, 0, none⟩) m m] 105)) (wr.heap.size + 1) 105 #[.slice (some ⟨wr.heap.size, 0, none⟩) m m] := by
     have h := Blk.new (wr.alloc (.cells (xS m (fun _ _ => [])).toArray 106)) 105 #[.slice (some ⟨wr.heap.size, 0, none⟩) m m]; simp only [World.size_alloc] at h; exact h
    have hWF : Below wr.heap.size wr ((wr.alloc (.cells (xS m (fun _ _ => [])).toArray 106)).alloc (.cells #[.slice (some ⟨wr.heap.size, 0, none⟩) m m] 105)) := ext (zg _ _) (zg _ _); clear r0 r1 r2 r3 rL o0 oL a0 aL f0 fL; have HR := ze hR; have HBR := ze hBR; have HWR := ze hWF; clear hR hBR hWF; have hfr := zD.of_own HFO.out; have HFR := ze hfr; clear hfr; generalize (wr.alloc (.cells (xS m (fun _ _ => [])).toArray 106)).alloc (.cells #[.slice (some ⟨wr.heap.size, 0, none⟩) m m] 105) = WS2 at HR HBR HWR |-; generalize wr = WF at *; obtain ⟨vw_, hvw⟩ : ∃ v, v = fun i => zi (-(wl ((x9 (zo fx asked) k0).getD i 0))) := ⟨_, rfl⟩
    have HV := ze hvw; clear hvw
    go_loopw [76] (HeaR m vw_ WF) (fun iv _ => m - (intOf iv).toNat)
    case atStart => exact ⟨0, Nat.zero_le _, rfl, HR.out.congr (fun i c _ _ => by unfold zcf; rw [if_neg (by omega)]), HBR, HWR⟩
    case round =>
     clear HR HBR HWR; obtain ⟨i, hi, rfl, HR, HBR, HWR⟩ := hrel
     by_cases hil : i < m
     . have hii : (i : Int) < (m : Int) := by omega
       obtain ⟨kf, hkf⟩ : ∃ kf, kf = (x9 (zo fx asked) k0).getD i 0 := ⟨_, rfl⟩
       obtain ⟨ad, e1, hbb, q0⟩ : ∃ ad, Af = some ad /\ ad.block < WF.heap.size /\ wr.cell? (ad.add i) = some (.int .i64 (kf : Int)) := by
        obtain ⟨ad, e1, hb, hc⟩ := (HFR.out.below HWR.out).2 (by omega); exact ⟨ad, e1, hb, hc i _ (by rw [zfg (by rw [<- HM.out]; exact hil), hkf])⟩
       subst e1; have HKF := ze hkf; clear hkf; go_wp2_with fail
       go_loopw [81] (HeaC m vw_ i WF) (fun cv _ => 25 - (intOf cv).toNat)
       case atStart => exact ⟨0, Nat.zero_le _, rfl, by rw [zn7]; exact HR, HBR, HWR⟩
       case round =>
        clear HR HBR HWR q0; obtain ⟨k, hk, rfl, HR, HBR, HWR⟩ := hrel
        by_cases hkl : k < 25
        . have hki : (k : Int) < 25 := by omega
          have hk0' : (0 : Int) <= (k : Int) := by omega
          have b0 := HBR.out.cell 0; simp at b0; have ck := HR.out.cell hil hkl; have fk := HR.out.frozen (i * 25 + k); have lk := HR.out.lt; have HR2 := ze (HR.out.set_ (i := i) hkl [48]); rw [zq5] at HR2; go_wp2_with fail; go_round
          case rel => exact ⟨k + 1, by omega, by go_num, HR2, HBR.out.far (by simp) _, HWR.out.setCell (Nat.le_refl _) _⟩
          case measure => simp [intOf]; omega
        . obtain rfl : k = 25 := by omega
          have b0 := HBR.out.cell 0; have hbf := HBF.out.below HWR.out HBF.out.lt; have f0 := hbf.cell 0; simp at b0 f0; have fL := hbf.lt; clear hbf; have hm25 : (m : Int) < 25 := by omega
          have hm0 : (0 : Int) <= (m : Int) := by omega
          have ck := HR.out.cell hil (show m < 25 by omega); have fk := HR.out.frozen (i * 25 + m); have lk := HR.out.lt; go_wp2_with fail; have hkfN : kf < n.nodes.length := by rw [HKF.out, <- HK0.out]; exact (vN _ (by rw [<- HM.out]; exact hil)).1
          have hcall := fun t : zb8 wr => HLW.out kf hkfN _ (ext (ext HW.out HWR.out) t.below)
          have hsx := HG.out.wd kf hkfN; have hmin := zm6 (Dz.short hsx (show 12 < 50000 by omega)); have HSX := ze (yN (Dz.short hsx (show 12 < 50000 by omega))); rw [show -(wl kf) = -(wl ((x9 (zo fx asked) k0).getD i 0)) by rw [HKF.out]] at hmin; have hvi : vw_ i = zi (-(wl ((x9 (zo fx asked) k0).getD i 0))) := by rw [HV.out]
          rw [<- hvi] at hmin; have HMIN := ze hmin; clear hsx hmin hvi; obtain ⟨x, hx⟩ : ∃ x, x = zi (wl kf) := ⟨_, rfl⟩; rw [<- hx] at hcall HSX HMIN; clear hx; have bL := HBR.out.lt; have b0g := z8 bL b0; have f0g := z8 fL f0; refine X6 9 11 11 (by kernel_rfl) rfl rfl rfl (by kernel_rfl) (by kernel_rfl) ?_ ?_ ?_
          . intro _ _ _ _ _ h9; exact h9
          . intro _ _ _ _ h9; exact h9
          simp only [zd5, zus, List.take_succ_cons, List.take_zero, List.drop_succ_cons, List.drop_zero]
          repeat (quiet_step (first | (go_at_call 79; exact yQ (hcall _))))
          refine wpQuiet_nil ?_; rintro w9 ⟨t9, rfl⟩; clear b0g f0g; have hbB := yy wr t9
          try clear b0 bL
          replace HBR := kb_ HBR hbB; replace HR := ze (HR.out.below hbB); replace HWR := eb_ HWR hbB; generalize grown wr t9 = WN at hbB HBR HR HWR |-; clear t9; obtain ⟨b0, bL⟩ := zbk HBR.out; clear b0 f0 fL ck fk lk hcall hbB; have ck := HR.out.cell hil (show m < 25 by omega); have fk := HR.out.frozen (i * 25 + m); have lk := HR.out.lt; have HR2 := ze (HR.out.set_ (i := i) (show m < 25 by omega) x); have HBR2 := ze (HBR.out.far (p := ⟨WF.heap.size, i * 25 + m, none⟩) (show WF.heap.size + 1 ≠ WF.heap.size by omega) (str x)); have HWR2 := ze (HWR.out.setCell (p := ⟨WF.heap.size, i * 25 + m, none⟩) (Nat.le_refl _) (str x)); have b0 := HBR2.out.cell 0; have bL := HBR2.out.lt; have hbf := HBF.out.below HWR2.out HBF.out.lt; have f0 := hbf.cell 0; have fL := hbf.lt; have c2 := HR2.out.cell hil (show m < 25 by omega); have l2 := HR2.out.lt; rw [zmf] at c2; simp only [List.getElem?_toArray, List.getElem?_cons_zero] at b0 f0; clear hbf HR HBR HWR; go_wp2_with fail; generalize WN.setCell ⟨WF.heap.size, i * 25 + m, none⟩ (.string ⟨x.toArray⟩) = W2 at HR2 HBR2 HWR2 b0 bL f0 fL c2 l2 |-; clear ck fk lk; have hcm := fun w' => XL [48] x w' (by unfold zO; simp) HSX.out
          rw [HMIN.out] at hcm; have b0g := z8 bL b0; have f0g := z8 fL f0; have c2g := z8 l2 c2; refine zZ 13 (by kernel_rfl) (by kernel_rfl) ?_; simp only [List.take_succ_cons, List.take_zero, List.drop_succ_cons, List.drop_zero]
          repeat (quiet_step (first | (go_at_call 40; exact yQ (hcm _))))
          refine wpQuiet_nil ?_; rintro w9 ⟨t9, rfl⟩; clear b0g f0g c2g; have hbB := yy W2 t9
          try clear b0 bL
          replace HBR2 := kb_ HBR2 hbB; replace HR2 := ze (HR2.out.below hbB); replace HWR2 := eb_ HWR2 hbB; generalize grown W2 t9 = W3 at hbB HBR2 HR2 HWR2 |-; clear t9; obtain ⟨b0, bL⟩ := zbk HBR2.out; clear c2 f0 fL l2 hcm hbB; have ck := HR2.out.cell hil (show m < 25 by omega); have fk := HR2.out.frozen (i * 25 + m); have lk := HR2.out.lt; have HR3 := ze ((HR2.out.set_ (i := i) (show m < 25 by omega) (vw_ i)).congr (zk5 rfl)); have HBR3 := ze (HBR2.out.far (p := ⟨WF.heap.size, i * 25 + m, none⟩) (show WF.heap.size + 1 ≠ WF.heap.size by omega) (str (vw_ i))); have HWR3 := ze (HWR2.out.setCell (p := ⟨WF.heap.size, i * 25 + m, none⟩) (Nat.le_refl _) (str (vw_ i))); go_wp2_with fail; go_round
          case rel => exact ⟨i + 1, by omega, by go_num, HR3, HBR3, HWR3⟩
          case measure => simp [intOf]; omega
     . obtain rfl : m = i := by omega
       clear hil hi; have lF := HBF.out.lt; have hA0 : WF.cell? ⟨bA, 0, none⟩ = some (.slice (some ⟨gA, 0, none⟩) k0 k0) := HBA.out.cell 0; have hF0 : WF.cell? ⟨bF, 0, none⟩ = some (.slice Af m cf) := HBF.out.cell 0; have hO0 : WF.cell? ⟨bO, 0, none⟩ = some (.slice (some ⟨gO, 0, none⟩) k0 k0) := HBO.out.cell 0
       have hput : ∀ (W : World) (R : Nat -> Nat -> List UInt8) (k o : Nat) (d : List UInt8), Below WF.heap.size WF W -> yv W WF.heap.size m R -> Blk W (WF.heap.size + 1) 105 #[.slice (some ⟨WF.heap.size, 0, none⟩) m m] -> k < k0 -> o < k0 -> (∀ i j, zO (R i j)) -> zO d ->
        Calls Tryz.prog 80 #[.int .i64 k, .int .i64 o, str d, .pointer (some ⟨bA, 0, none⟩), .pointer (some ⟨WF.heap.size + 1, 0, none⟩), .pointer (some ⟨bF, 0, none⟩), .pointer (some ⟨bO, 0, none⟩)] W (zdl WF.heap.size m (zqq m R (YM fx asked k) (YM fx asked o) (zi (xC fx o)) d) W) := by
        intro W R k o d hW hR hB hk ho hs hd; have hB5 := HB.out
        refine zt1 k0 m gA WF.heap.size gO bA (WF.heap.size + 1) bF bO k o cf Af _ _ d _ R W ((hW.cell (by simp only; omega)).trans hA0) hk ho (by omega) ((hW.cell (by simp only; omega)).trans ?_) ((hW.cell (by simp only; omega)).trans ?_) (hB.cell 0)
         (fun r hr => by rw [HM.out]; exact zvp hk hr) (fun r hr => by rw [HM.out]; exact zvp ho hr) ((hW.cell lF).trans hF0) ((hW.cell (by simp only; omega)).trans hO0) ((hW.cell (by simp only; omega)).trans ?_) ?_ (by omega) hR hs hd (by omega) (by omega) (by omega) (by omega) (by omega) (by omega)
        . rw [HRA.out.cell hk]; unfold atF; rw [if_pos hk]
        . rw [HRA.out.cell ho]; unfold atF; rw [if_pos ho]
        . rw [HRO.out.cell ho]; unfold zsu; rw [if_pos ho]
        . exact yN (HG.out.short_out (by rw [<- HK0.out]; exact ho))
       have HPUT := ze hput; clear hput hA0 hF0 hO0 lF
       have HR1 : Hid (yv wr WF.heap.size m (txt (Zi n.pf n.pt c fx wl asked k0 0))) := ze (HR.out.congr (fun i c hi _ => by
        unfold zcf txt Zi; rw [if_pos hi, <- HM.out, HV.out]
        by_cases h : c = m
        . rw [if_pos h, if_pos h]
        . rw [if_neg h, if_neg h]; exact (yA.2 rfl).symm))
       have hk1 := HK.out.below HWR.out HK.out.lt; have r1 := hk1.cell 1; simp at r1; clear HR hk1; go_wp2_with fail; clear r1
       go_loopw [121] (HeaP n c fx wl asked k0 m WF) (fun iv _ => k1 - (intOf iv).toNat)
       case atStart => exact ⟨0, Nat.zero_le _, rfl, HR1, HBR, HWR⟩
       case round =>
        clear HR1 HBR HWR; obtain ⟨i, hi, rfl, HR, HBR, HWR⟩ := hrel
        by_cases hil : i < k1
        . have hin : i < n.pipes.length := by have := HK1.out; omega
          obtain ⟨ad, e1, hb, p0, p1, p2, p3, p4⟩ := (HN1.out.below (ext HW.out HWR.out)).at_ hin; subst e1
          obtain ⟨ac, e2, hqc⟩ : ∃ ac, Ac = some ac /\ ∀ W, Below WF.heap.size WF W -> ac.block < W.heap.size /\ W.cell? (ac.add i) = some (str (zi (c i))) := by
           obtain ⟨ac, e1, hb, hc⟩ := HCR.out.2 (by omega); have hic : i < cs.length := by have := HCL.out; omega
           refine ⟨ac, e1, fun W hW => ?_⟩; have hb2 := Nat.lt_of_lt_of_le hb (ext HW.out hW).size; exact ⟨hb2, ((ext HW.out hW).cell (by rw [zy]; exact hb)).trans (hc i _ (by rw [<- HCT.out i hic]; simp [hic]))⟩
          subst e2; have HQC := ze hqc; clear hqc; obtain ⟨q1, q2, q3, q4⟩ := HEN.out i hin; rw [q1] at p1; rw [q3] at p2; have hf0 : n.pf i < k0 := by have := HK0.out; omega
          have ht0 : n.pt i < k0 := by have := HK0.out; omega
          have hii : (i : Int) < (k1 : Int) := by omega
          clear q1 q2 q3 q4; go_wp2_with fail; have hx := zg wr (.cells #[str n.pipes[i].name, .int .i64 (n.pf i : Int), .int .i64 (n.pt i : Int), str n.pipes[i].low, str n.pipes[i].high] 47); have HP := ze (Blk.new wr 47 #[str n.pipes[i].name, .int .i64 (n.pf i : Int), .int .i64 (n.pt i : Int), str n.pipes[i].low, str n.pipes[i].high]); have HC := ze (HR.out.congr (R' := zbz m (txt (Zi n.pf n.pt c fx wl asked k0 i))) (fun i' j h _ => (zf5 h).symm)); have hqr : wr.heap.size ≠ WF.heap.size := by have := HR.out.lt; omega
          clear HR p0 p1 p2 p3 p4 hb; replace HBR := kb_ HBR hx; replace HC := ze (HC.out.below hx); replace HWR := eb_ HWR hx; generalize wr.alloc (.cells #[str n.pipes[i].name, .int .i64 (n.pf i : Int), .int .i64 (n.pt i : Int), str n.pipes[i].low, str n.pipes[i].high] 47) = WP at HP HC HBR HWR |-; generalize wr.heap.size = q at HP hqr |-; clear hx; have c1 := HP.out.cell 1; have c2 := HP.out.cell 2; have cL := HP.out.lt; simp only [List.getElem?_toArray, List.getElem?_cons_succ, List.getElem?_cons_zero] at c1 c2; obtain ⟨lc, qc⟩ := HQC.out WP HWR.out; have c1g := z8 cL c1; have c2g := z8 cL c2; have qcg := Yc lc qc; refine zZ 9 (by kernel_rfl) (by kernel_rfl) ?_; simp only [List.take_succ_cons, List.take_zero, List.drop_succ_cons, List.drop_zero]
          repeat (quiet_step (fail))
          refine wpQuiet_nil ?_; rintro w9 ⟨t9, rfl⟩; clear c1g c2g qcg; have hbB := yy WP t9
          try clear b0 bL cL
          replace HBR := kb_ HBR hbB; replace HC := ze (HC.out.below hbB); replace HWR := eb_ HWR hbB; replace HP := kb_ HP hbB; generalize grown WP t9 = WQ at hbB HBR HC HWR HP |-; clear t9; have b0 := HBR.out.cell 0; have bL := HBR.out.lt; have cL := HP.out.lt; simp at b0; clear c1 c2 lc qc cL; have hip : i < k1 := hil; have hcs : zO (zi (c i)) := yN (Dz.short (HGK.out.cd i hip) (show 12 < 50000 by omega)); have HCS := ze hcs; have hp1 := (HPUT.out WQ _ (n.pf i) (n.pt i) (zi (c i)) HWR.out HC.out HBR.out hf0 ht0 (by rw [HM.out]; exact HGK.out.tab_smallS (by omega)) hcs)
          have hpe : ∀ i' j, i' < m -> j < 25 -> zqq m (zbz m (txt (Zi n.pf n.pt c fx wl asked k0 i))) (YM fx asked (n.pf i)) (YM fx asked (n.pt i)) (zi (xC fx (n.pt i))) (zi (c i)) i' j = zbz m (txt (zeo n.pf n.pt c fx wl asked k0 i)) i' j := by
           intro i' j h _; rw [zf5 h]; rw [HM.out] at h |-; exact HGK.out.put1 hip h
          have HPE := ze hpe; clear hpe hcs; go_wp2_with fail; refine hp1.mono ?_; rintro e W3 ⟨rfl, hR3, hg3⟩; clear hp1; have HC2 := ze (hR3.congr HPE.out); have HBR2 := ze (HBR.out.grown hg3 (by intro e; injection e; omega)); have HP2 := ze (HP.out.grown hg3 (by intro e; injection e with e; exact hqr e)); have HWR2 := ze (HWR.out.grown hg3 HWR.out.size (fun k hk => by injection hk with hk; omega)); clear hR3 hg3 HC HBR HP HWR HPE; have c1 := HP2.out.cell 1; have c2 := HP2.out.cell 2; have cL := HP2.out.lt; simp only [List.getElem?_toArray, List.getElem?_cons_succ, List.getElem?_cons_zero] at c1 c2; obtain ⟨lc, qc⟩ := HQC.out W3 HWR2.out; go_wp2_with fail; have c1g := z8 cL c1; have c2g := z8 cL c2; have qcg := Yc lc qc; refine zZ 9 (by kernel_rfl) (by kernel_rfl) ?_; simp only [List.take_succ_cons, List.take_zero, List.drop_succ_cons, List.drop_zero]
          repeat (quiet_step (fail))
          refine wpQuiet_nil ?_; rintro w9 ⟨t9, rfl⟩; clear c1g c2g qcg; have hbB := yy W3 t9
          try clear b0 bL cL
          replace HBR2 := kb_ HBR2 hbB; replace HC2 := ze (HC2.out.below hbB); replace HWR2 := eb_ HWR2 hbB; replace HP2 := kb_ HP2 hbB; generalize grown W3 t9 = W4 at hbB HBR2 HC2 HWR2 HP2 |-; clear t9; have b0 := HBR2.out.cell 0; have bL := HBR2.out.lt; have cL := HP2.out.lt; simp at b0; clear c1 c2 lc qc cL; have hp1 := (HPUT.out W4 _ (n.pt i) (n.pf i) (zi (c i)) HWR2.out HC2.out HBR2.out ht0 hf0 (by rw [HM.out]; exact HGK.out.half_smallS (by omega)) HCS.out)
          have hpe : ∀ i' j, i' < m -> j < 25 -> zqq m (zbz m (txt (zeo n.pf n.pt c fx wl asked k0 i))) (YM fx asked (n.pt i)) (YM fx asked (n.pf i)) (zi (xC fx (n.pf i))) (zi (c i)) i' j = txt (Zi n.pf n.pt c fx wl asked k0 (i + 1)) i' j := by
           intro i' j h _; rw [HM.out] at h |-; exact HGK.out.put2 hip h
          have HPE := ze hpe; clear hpe; go_wp2_with fail; refine hp1.mono ?_; rintro e W5 ⟨rfl, hR3, hg3⟩; clear hp1; have HC3 := ze (hR3.congr HPE.out); have HBR3 := ze (HBR2.out.grown hg3 (by intro e; injection e; omega)); have HWR3 := ze (HWR2.out.grown hg3 HWR2.out.size (fun k hk => by injection hk with hk; omega)); clear hR3 hg3 HC2 HBR2 HP2 HWR2 HPE; go_wp2_with fail; go_round
          case rel => exact ⟨i + 1, by omega, by go_num, HC3, HBR3, HWR3⟩
          case measure => simp [intOf]; omega
        . obtain rfl : k1 = i := by have := HK1.out; omega
          have hbf := HBF.out.below HWR.out HBF.out.lt; have f0 := hbf.cell 0; have b0 := HBR.out.cell 0; simp at f0 b0; clear hbf; have hm24 : (m : Int) <= 24 := by omega
          have hsv := zhi WF.heap.size m 200 (Zi n.pf n.pt c fx wl asked k0 k1) wr HR.out (by rw [HM.out]; exact HGK.out.elim) (by omega) (by rw [HM.out]; exact HGK.out.fits); have hlr := HR.out.lt; go_wp2_with fail; refine hsv.mono ?_; rintro e W2 ⟨v8, A, rfl, hEl, hown, hg2⟩; clear hsv f0 b0; obtain ⟨x, hx⟩ : ∃ x, x = fun i => A i m / A i i := ⟨_, rfl⟩
          have hown : W2.ownsRow wr.heap.size 28 1 v8 m ((List.range m).map fun i => str (zi (x i))) := by rw [hx]; exact hown
          have hsol : xR m (Zi n.pf n.pt c fx wl asked k0 k1) x := by rw [hx]; exact hEl.1.done
          have hxd : ∀ i, i < m -> Dz 12800 (x i) := by
           intro i hi
           have hle : 200 * 2 ^ m <= 12800 := by
            have : 2 ^ m <= 2 ^ 6 := Nat.pow_le_pow_right (by omega) hm6
            omega
           rw [hx]; exact hEl.answer_dz hle hi
          have HSOL := ze hsol; have HXD := ze hxd; clear hx hEl hsol hxd; obtain ⟨A8, c8, hv8⟩ := XG hown; subst hv8; have HWR2 := ze (HWR.out.grown hg2 HWR.out.size (fun k hk => by injection hk with hk; omega)); have hlt := HBF.out.lt; have hB5 := HB.out; have HO := ze ((HRO.out.below HWR2.out).congr (zpp (x := x) (asked := asked))); have HBO2 := ze (HBO.out.below HWR2.out HBO.out.lt); have HBF2 := ze (HBF.out.below HWR2.out HBF.out.lt); have HFO2 := ze (xU HFO.out HWR2.out); have HOW := ze hown; have HW2 := ze (ext HW.out HWR2.out); have hg8 : gO < wr.heap.size := by omega
          obtain ⟨B8, hB8⟩ : ∃ B, B = wr.heap.size := ⟨_, rfl⟩; rw [<- hB8] at HOW hg8; have HB8 := ze hg8; clear hlt hB5 hown hg2 HWR HWR2 HR HBR hB8 hg8 hlr HRO HBO HBF HFO HFR; go_wp2_with fail
          go_loopw [152] (HeaO fx asked x k0 m gO bO bF B8 Af A8 cf c8 w) (fun iv _ => m - (intOf iv).toNat)
          case atStart => exact ⟨0, Nat.zero_le _, rfl, HO, HBO2, HBF2, HFO2, HOW, HW2⟩
          case round =>
           clear HO HBO2 HBF2 HFO2 HOW HW2; obtain ⟨i, hi, rfl, HO, HBO, HBF, HFO, HOW, HW2⟩ := hrel
           by_cases hil : i < m
           . have hii : (i : Int) < (m : Int) := by omega
             obtain ⟨kf, hkf⟩ : ∃ kf, kf = (x9 (zo fx asked) k0).getD i 0 := ⟨_, rfl⟩
             obtain ⟨ad, e1, hb1, q0⟩ : ∃ ad, Af = some ad /\ ad.block < wr.heap.size /\ wr.cell? (ad.add i) = some (.int .i64 (kf : Int)) := by
              obtain ⟨ad, e1, hb, hc⟩ := (zD.of_own HFO.out).2 (by omega); exact ⟨ad, e1, hb, hc i _ (by rw [zfg (by rw [<- HM.out]; exact hil), hkf])⟩
             obtain ⟨a8, e8, hb8, q8⟩ : ∃ ad, A8 = some ad /\ ad.block < wr.heap.size /\ wr.cell? (ad.add i) = some (str (zi (x i))) := by
              obtain ⟨ad, e1, hb, hc⟩ := (zD.of_own HOW.out).2 (by omega); exact ⟨ad, e1, hb, hc i _ (by rw [List.getElem?_map, List.getElem?_range hil]; rfl)⟩
             subst e1; subst e8; have hkl : kf < k0 := by rw [hkf]; exact (vN _ (by rw [<- HM.out]; exact hil)).1
             have HKF := ze hkf; clear hkf; have hkf1 : (kf : Int) < (k0 : Int) := by omega
             have o0 := HBO.out.cell 0; have f0 := HBF.out.cell 0; simp at o0 f0; have co := HO.out.cell hkl; have fo := HO.out.frozen kf; have lo := HO.out.lt; have hne : bO ≠ gO /\ bF ≠ gO /\ gO < bF + 1 /\ gO < B8 /\ w.heap.size <= gO := by have := HB.out; have := HB8.out; omega
             have hO2 := HO.out.set_ (k := kf) (v := str (zi (x i))) (f' := zop fx asked x (i + 1)) (by rw [HKF.out]; exact zty (by rw [<- HM.out]; exact hil)) (fun j hj hne => zr6 (by rw [<- HM.out]; exact hil) j hj (by rw [<- HKF.out]; exact hne)); have hBO2 := HBO.out.far (p := ⟨gO, kf, none⟩) hne.1 (str (zi (x i))); have hBF2 := HBF.out.far (p := ⟨gO, kf, none⟩) hne.2.1 (str (zi (x i))); have hFO2 := zai HFO.out (p := ⟨gO, kf, none⟩) hne.2.2.1 (str (zi (x i))); have hOW2 := zai HOW.out (p := ⟨gO, kf, none⟩) hne.2.2.2.1 (str (zi (x i))); have hW2 := HW2.out.setCell (p := ⟨gO, kf, none⟩) hne.2.2.2.2 (str (zi (x i))); have HO2 := ze hO2; have HBO2 := ze hBO2; have HBF2 := ze hBF2; have HFO2 := ze hFO2; have HOW2 := ze hOW2; have HW3 := ze hW2; clear hO2 hBO2 hBF2 hFO2 hOW2 hW2 hne; go_wp2_with fail
             go_region
             have hdr : Below (wr.setCell ⟨gO, kf, none⟩ (.string ⟨(zi (x i)).toArray⟩)).heap.size (wr.setCell ⟨gO, kf, none⟩ (.string ⟨(zi (x i)).toArray⟩)) (wr.setCell ⟨gO, kf, none⟩ (.string ⟨(zi (x i)).toArray⟩)).drew := zp _ 1; go_wp2_with fail; go_round
             case rel => exact ⟨i + 1, by omega, by go_num, HO2.out.below hdr, HBO2.out.below hdr HBO2.out.lt, HBF2.out.below hdr HBF2.out.lt, xU HFO2.out hdr, xU HOW2.out hdr, ext HW3.out hdr⟩
             case measure => simp [intOf]; omega
           . obtain rfl : m = i := by omega
             have o0 := HBO.out.cell 0; simp at o0; go_wp2_with fail; go_ret; refine ⟨some ⟨gO, 0, none⟩, k0, zi5 fx asked x, by rw [<- HK0.out]; rfl, HK0.out, ?_, fun k hk => ?_, ?_, HW2.out⟩
             . rw [<- HK0.out, <- HK1.out]
               exact zox n.pf n.pt c fx wl asked HGK.out.piped (by rw [<- HM.out]; exact HSOL.out)
             . rw [<- HK0.out] at hk
               by_cases h : zo fx asked k = true
               . rw [ZK _ _ h]
                 exact (HXD.out _ (by rw [HM.out]; exact ZH _ hk h)).more (by omega)
               . rw [Vz _ _ h]
                 exact (HGK.out.fd k hk).more (by omega)
             . rw [<- HK0.out]
               have h := Blk.reads (n := k0) HO.out (by simp [row]); rw [HM.out, ziv zr9] at h; rw [List.take_of_length_le (by simp [row])] at h; exact h
def yB (l : List UInt8) : Int := if zP l ≠ 0 then zP l else if vP l <= 0 then 1 else 0
open Classical in
noncomputable def yV (n : Net) (cs : List (List UInt8)) : Int := if cs.length ≠ n.pipes.length then 1 else zM cs.length (fun i => yB (cs.getD i []))
noncomputable def yL (n : Net) (cs : List (List UInt8)) : Int := if n.err ≠ 0 then n.err else yV n cs
theorem zjs {l : List UInt8} (h : yB l = 0) : ∃ q, l = zi q /\ zS 12 q /\ 0 < q := by
 unfold yB at h
 by_cases h0 : zP l = 0
 . rw [if_neg (by rw [h0]; decide)] at h
   obtain ⟨q, h1, h2, h3, h4⟩ := vz h0; refine ⟨q, h4, h2, ?_⟩; rw [h3] at h
   by_cases h5 : q <= 0
   . rw [if_pos h5] at h; cases h
   . grind
 . rw [if_pos h0] at h; exact absurd h h0
theorem zjh (l : List UInt8) (w : World) (hs : zO l) : Calls Tryz.prog 117 #[str l] w (vB w (.int .i64 (yB l))) := by
 have hsl := yO hs
 have h1 := fun w => X7 ⟨l.toArray⟩ w hsl
 rw [yn] at h1
 obtain ⟨r, HR⟩ : ∃ r, Hid (yB l = r) := ⟨_, ze rfl⟩
 rw [HR.out]
 unfold yB at HR
 by_cases h0 : zP l = 0
 . obtain ⟨q, e1, e2, e3, e4⟩ := vz h0
   have h2 : ∀ w, Calls Tryz.prog 149 #[.string ⟨#[48]⟩, str l] w (vB w (.bool (decide (0 < q)))) := by
    intro w; have h := zaq ⟨#[48]⟩ ⟨l.toArray⟩ w (by decide) hsl; rw [show bts ⟨#[48]⟩ = [48] from rfl, yn, zdo zic e1] at h; exact h
   rw [h0, if_neg (by decide), e3] at HR; rw [h0] at h1; clear e1 e2 e3 e4 h0 hs hsl
   by_cases hq : 0 < q
   . have HF : Hid (r = 0) := ze (by have := HR.out; rw [if_neg (by grind)] at this; exact this.symm)
     rw [decide_eq_true hq] at h2; clear hq HR
     go_enter Tryz.func117, Tryz.ntmps117
     go_wp2_with fail; refine (h1 _).mono ?_; rintro e w1 ⟨rfl, hb1⟩; have HW := ze hb1; clear hb1 h1; go_wp2_with fail; refine (h2 _).mono ?_; rintro e w2 ⟨rfl, hb2⟩; have HW2 := ze (ext HW.out hb2); clear hb2 h2; go_wp2_with fail; go_ret; exact ⟨zq HF.out, HW2.out⟩
   . have HF : Hid (r = 1) := ze (by have := HR.out; rw [if_pos (by grind)] at this; exact this.symm)
     rw [decide_eq_false hq] at h2; clear hq HR
     go_enter Tryz.func117, Tryz.ntmps117
     go_wp2_with fail; refine (h1 _).mono ?_; rintro e w1 ⟨rfl, hb1⟩; have HW := ze hb1; clear hb1 h1; go_wp2_with fail; refine (h2 _).mono ?_; rintro e w2 ⟨rfl, hb2⟩; have HW2 := ze (ext HW.out hb2); clear hb2 h2; go_wp2_with fail; go_ret; exact ⟨zq HF.out, HW2.out⟩
 . obtain ⟨x, HX⟩ : ∃ x, Hid (zP l = x) := ⟨_, ze rfl⟩
   rw [HX.out] at h0 h1 HR; have HF : Hid (r = x) := ze (by have := HR.out; rw [if_pos h0] at this; exact this.symm); have hI : (x != 0) = true := by rw [bne_iff_ne]; exact h0
   clear h0 HR hs hsl
   go_enter Tryz.func117, Tryz.ntmps117
   go_wp2_with fail; refine (h1 _).mono ?_; rintro e w1 ⟨rfl, hb1⟩; have HW := ze hb1; clear hb1 h1; go_wp2_with fail; go_ret; exact ⟨zq HF.out, HW.out⟩
def CndR (cs : List (List UInt8)) (w : World) (nb : Array Value) (iv : Value) (wr : World) : Prop :=
 ∃ i : Nat, i <= cs.length /\ iv = .int .i64 i /\ Hid (∀ j, j < i -> yB (cs.getD j []) = 0) /\ Hid (Blk wr w.heap.size 26 nb) /\ Hid (Below w.heap.size w wr)
theorem zcj (vn vc : Value) (n : Net) (cs : List (List UInt8)) (w : World) (hn : Zq w vn n) (hc : yJ w vc cs) :
 Calls Tryz.prog 78 #[vn, vc] w (vB w (.int .i64 (yV n cs))) := by
 obtain ⟨A0, k0, c0, A1, k1, c1, A2, k2, c2, A3, k3, c3, rfl, hn0, hn1, hn2, hn3⟩ := hn
 have hk1 : k1 = n.pipes.length := by obtain ⟨A', c', e, _⟩ := hn1; injection e
 have hb1 : k1 <= 1000 := by obtain ⟨A', c', e, _, _, h6, _⟩ := hn1; omega
 have HC := ze hc
 obtain ⟨Ac, cc, rfl, hc1, hc2, hc3, hcr, hcs⟩ := hc
 have HCS := ze hcs
 have HW := ze (zg w (.cells #[.slice A0 k0 c0, .slice A1 k1 c1, .slice A2 k2 c2, .slice A3 k3 c3] 26))
 have HK := ze (Blk.new w 26 #[.slice A0 k0 c0, .slice A1 k1 c1, .slice A2 k2 c2, .slice A3 k3 c3])
 have HK1 := ze hk1
 obtain ⟨r, HR⟩ : ∃ r, Hid (yV n cs = r) := ⟨_, ze rfl⟩
 rw [HR.out]
 unfold yV at HR
 clear hn0 hn1 hn2 hn3 hk1 hcr hcs hc2
 obtain ⟨r0, r1, r2, r3, rL⟩ := yG HK.out
 by_cases hl : cs.length = k1
 . have HR2 : Hid (zM cs.length (fun i => yB (cs.getD i [])) = r) := ze (by have := HR.out; rw [if_neg (by have := HK1.out; omega)] at this; exact this)
   clear HR; subst hl; have hI : ((cs.length : Int) != (cs.length : Int)) = false := by simp
   go_enter Tryz.func78, Tryz.ntmps78
   go_wp2_with fail; clear r0 r1 r2 r3 rL
   go_loopw [16] (CndR cs w #[.slice A0 k0 c0, .slice A1 cs.length c1, .slice A2 k2 c2, .slice A3 k3 c3]) (fun iv _ => cs.length - (intOf iv).toNat)
   case atStart => exact ⟨0, Nat.zero_le _, rfl, fun j h => by omega, HK, HW⟩
   case round =>
    clear HK HW; obtain ⟨i, hi, rfl, HD, HK, HW⟩ := hrel
    by_cases hlt : i < cs.length
    . obtain ⟨ad, e1, hb, p0⟩ := (HC.out.below HW.out).at_ hlt
      subst e1; have hi1 : (i : Int) < (cs.length : Int) := by omega
      have hab := fun w => zjh cs[i] w (HCS.out _ (List.getElem_mem hlt))
      obtain ⟨ev, HEV⟩ : ∃ ev, Hid (yB cs[i] = ev) := ⟨_, ze rfl⟩; rw [HEV.out] at hab; have hge : cs.getD i [] = cs[i] := by simp [List.getD, List.getElem?_eq_getElem hlt]
      by_cases h0 : ev = 0
      . subst h0
        have HNX : Hid (∀ j, j < i + 1 -> yB (cs.getD j []) = 0) := by
         intro m hm
         rcases Nat.lt_or_ge m i with h3 | h3
         . exact HD.out m h3
         . obtain rfl : m = i := by omega
           rw [hge]; exact HEV.out
        clear hge; go_wp2_with fail; refine (hab _).mono ?_; rintro e WN ⟨rfl, hbB⟩
        try clear r0 r1 r2 r3 rL
        replace HK := kb_ HK hbB; replace HW := eb_ HW hbB; clear hbB; obtain ⟨r0, r1, r2, r3, rL⟩ := yG HK.out; go_wp2_with fail; go_round
        case rel => exact ⟨i + 1, by omega, by go_num, HNX, HK, HW⟩
        case measure => simp [intOf]; omega
      . have hI2 : (ev != 0) = true := by rw [bne_iff_ne]; exact h0
        have HF : Hid (r = ev) := ze (by
         have h := xx hlt (f := fun i => yB (cs.getD i [])) (fun j hj => HD.out j hj) (by rw [hge, HEV.out]; exact h0)
         rw [<- HR2.out, h, hge, HEV.out])
        clear h0 hge; go_wp2_with fail; refine (hab _).mono ?_; rintro e WN ⟨rfl, hbB⟩
        try clear r0 r1 r2 r3 rL
        replace HK := kb_ HK hbB; replace HW := eb_ HW hbB; clear hbB; obtain ⟨r0, r1, r2, r3, rL⟩ := yG HK.out; go_wp2_with fail; go_ret; exact ⟨zq HF.out, HW.out⟩
    . obtain rfl : i = cs.length := by omega
      have HF : Hid (r = 0) := ze (by rw [<- HR2.out]; exact zJ.2 HD.out); go_wp2_with fail; go_ret; exact ⟨zq HF.out, HW.out⟩
 . have HF : Hid (r = 1) := ze (by have := HR.out; rw [if_pos (by have := HK1.out; omega)] at this; exact this.symm)
   have hI : ((cs.length : Int) != (k1 : Int)) = true := by rw [bne_iff_ne]; omega
   clear HR
   go_enter Tryz.func78, Tryz.ntmps78
   go_wp2_with fail; go_ret; exact ⟨zq HF.out, HW.out⟩
theorem zkr (vn vc : Value) (n : Net) (cs : List (List UInt8)) (w : World) (hn : Zq w vn n) (hc : yJ w vc cs) :
 Calls Tryz.prog 34 #[vn, vc] w (vB w (.int .i64 (yL n cs))) := by
 have h1 := fun w' (h : Below w.heap.size w w') => zjk vn n w' (hn.below h)
 have h2 := fun w' (h : Below w.heap.size w w') => zcj vn vc n cs w' (hn.below h) (hc.below h)
 obtain ⟨r, HR⟩ : ∃ r, Hid (yL n cs = r) := ⟨_, ze rfl⟩
 rw [HR.out]
 unfold yL at HR
 obtain ⟨x, HX⟩ : ∃ x, Hid (n.err = x) := ⟨_, ze rfl⟩
 obtain ⟨y, HY⟩ : ∃ y, Hid (yV n cs = y) := ⟨_, ze rfl⟩
 rw [HX.out, HY.out] at HR
 rw [HX.out] at h1
 rw [HY.out] at h2
 obtain ⟨A0, k0, c0, A1, k1, c1, A2, k2, c2, A3, k3, c3, rfl, hn0, hn1, hn2, hn3⟩ := hn
 have HW := ze (zg w (.cells #[.slice A0 k0 c0, .slice A1 k1 c1, .slice A2 k2 c2, .slice A3 k3 c3] 26))
 have HK := ze (Blk.new w 26 #[.slice A0 k0 c0, .slice A1 k1 c1, .slice A2 k2 c2, .slice A3 k3 c3])
 clear hn0 hn1 hn2 hn3 hc
 obtain ⟨r0, r1, r2, r3, rL⟩ := yG HK.out
 by_cases h0 : x = 0
 . have HF : Hid (r = y) := ze (by have := HR.out; rw [if_neg (by rw [h0]; decide)] at this; exact this.symm)
   subst h0; clear HR
   go_enter Tryz.func34, Tryz.ntmps34
   go_wp2_with fail; refine (h1 _ HW.out).mono ?_; rintro e WN ⟨rfl, hbB⟩
   try clear r0 r1 r2 r3 rL
   replace HK := kb_ HK hbB; replace HW := eb_ HW hbB; clear hbB; obtain ⟨r0, r1, r2, r3, rL⟩ := yG HK.out; clear h1; go_wp2_with fail; refine (h2 _ HW.out).mono ?_; rintro e WN ⟨rfl, hbB⟩
   try clear r0 r1 r2 r3 rL
   replace HK := kb_ HK hbB; replace HW := eb_ HW hbB; clear hbB; obtain ⟨r0, r1, r2, r3, rL⟩ := yG HK.out; clear h2; go_wp2_with fail; go_ret; exact ⟨zq HF.out, HW.out⟩
 . have hI : (x != 0) = true := by rw [bne_iff_ne]; exact h0
   have HF : Hid (r = x) := ze (by have := HR.out; rw [if_pos h0] at this; exact this.symm); clear HR h0
   go_enter Tryz.func34, Tryz.ntmps34
   go_wp2_with fail; refine (h1 _ HW.out).mono ?_; rintro e WN ⟨rfl, hbB⟩
   try clear r0 r1 r2 r3 rL
   replace HK := kb_ HK hbB; replace HW := eb_ HW hbB; clear hbB; obtain ⟨r0, r1, r2, r3, rL⟩ := yG HK.out; clear h1 h2; go_wp2_with fail; go_ret; exact ⟨zq HF.out, HW.out⟩
def ztu (N : Nat) (w : World) (e : Ending) (w' : World) : Prop := ∃ v, e = .returned v /\ ZG w' v (List.replicate N true) /\ Below w.heap.size w w'
def WhoR (N g : Nat) (w : World) (nb : Array Value) (iv : Value) (wr : World) : Prop :=
 ∃ i : Nat, i <= N /\ iv = .int .i64 i /\ Hid (vG wr g (List.replicate i true ++ List.replicate (N - i) false) []) /\ Hid (Blk wr w.heap.size 26 nb) /\ Hid (Below w.heap.size w wr)
theorem zqt {N i : Nat} (hi : i < N) : (List.replicate i true ++ List.replicate (N - i) false).set i true = List.replicate (i + 1) true ++ List.replicate (N - (i + 1)) false := by
 rw [List.set_append_right _ _ (by simp)]
 rw [show N - i = (N - (i + 1)) + 1 by omega, List.replicate_succ, List.length_replicate, Nat.sub_self, List.set_cons_zero, List.replicate_succ']
 simp
theorem zi6 (vn : Value) (n : Net) (w : World) (hn : Zq w vn n) : Calls Tryz.prog 43 #[vn] w (ztu n.nodes.length w) := by
 obtain ⟨A0, k0, c0, A1, k1, c1, A2, k2, c2, A3, k3, c3, rfl, hn0, hn1, hn2, hn3⟩ := hn
 have hk0 : k0 = n.nodes.length := by obtain ⟨A', c', e, _⟩ := hn0; injection e
 have hb0 : k0 <= 1000 := by obtain ⟨A', c', e, _, _, h6, _⟩ := hn0; omega
 have HK0 := ze hk0
 have HW := ze (zg w (.cells #[.slice A0 k0 c0, .slice A1 k1 c1, .slice A2 k2 c2, .slice A3 k3 c3] 26))
 have HK := ze (Blk.new w 26 #[.slice A0 k0 c0, .slice A1 k1 c1, .slice A2 k2 c2, .slice A3 k3 c3])
 have hmk := fun w => zb4 .i64 k0 (by omega) w
 clear hn0 hn1 hn2 hn3 hk0
 obtain ⟨r0, r1, r2, r3, rL⟩ := yG HK.out
 go_enter Tryz.func43, Tryz.ntmps43
 go_wp2_with fail
 clear hmk r0 r1 r2 r3 rL
 have hx := zg (w.alloc (.cells #[.slice A0 k0 c0, .slice A1 k1 c1, .slice A2 k2 c2, .slice A3 k3 c3] 26)) (.cells (xZ (List.replicate k0 false)).toArray 4)
 have hbm : vG ((w.alloc (.cells #[.slice A0 k0 c0, .slice A1 k1 c1, .slice A2 k2 c2, .slice A3 k3 c3] 26)).alloc (.cells (xZ (List.replicate k0 false)).toArray 4)) (w.heap.size + 1) (List.replicate 0 true ++ List.replicate (k0 - 0) false) [] := by
  unfold vG
  rw [List.append_nil]
  have h := Blk.new (w.alloc (.cells #[.slice A0 k0 c0, .slice A1 k1 c1, .slice A2 k2 c2, .slice A3 k3 c3] 26)) 4 (xZ (List.replicate k0 false)).toArray
  simp only [World.size_alloc] at h
  exact h
 have HBM := ze hbm
 clear hbm
 replace HK := kb_ HK hx
 replace HW := eb_ HW hx
 clear hx
 generalize (w.alloc (.cells #[.slice A0 k0 c0, .slice A1 k1 c1, .slice A2 k2 c2, .slice A3 k3 c3] 26)).alloc (.cells (xZ (List.replicate k0 false)).toArray 4) = WM at HK HW HBM |-
 go_loopw [11] (WhoR k0 (w.heap.size + 1) w #[.slice A0 k0 c0, .slice A1 k1 c1, .slice A2 k2 c2, .slice A3 k3 c3]) (fun iv _ => k0 - (intOf iv).toNat)
 case atStart => exact ⟨0, Nat.zero_le _, rfl, HBM, HK, HW⟩
 case round =>
  clear HK HW HBM
  obtain ⟨i, hi, rfl, HBM, HK, HW⟩ := hrel
  by_cases hlt : i < k0
  . have hi1 : (i : Int) < (k0 : Int) := by omega
    have hal : i < (List.replicate i true ++ List.replicate (k0 - i) false).length := by simp; omega
    have c1 := HBM.out.cell hal; have f1 := HBM.out.frozen i; have l1 := HBM.out.lt; have HB2 := HBM.out.set_ hal true; rw [zqt hlt] at HB2; have HB3 := ze HB2; generalize (List.replicate i true ++ List.replicate (k0 - i) false)[i] = x at c1; clear HB2 hal; have hgn : w.heap.size ≠ w.heap.size + 1 := by omega
    go_wp2_with fail; go_round
    case rel => exact ⟨i + 1, by omega, by go_num, HB3, HK.out.far hgn _, HW.out.setCell (by simp only; omega) _⟩
    case measure => simp [intOf]; omega
  . obtain rfl : i = k0 := by omega
    go_wp2_with fail; go_ret; refine ⟨.slice (some ⟨w.heap.size + 1, 0, none⟩) i i, rfl, ⟨some ⟨w.heap.size + 1, 0, none⟩, i, by rw [List.length_replicate, HK0.out], by rw [List.length_replicate, HK0.out]; exact Nat.le_refl _, by unfold maxLen; omega, ?_⟩, HW.out⟩; have h := HBM.out.reads; rw [Nat.sub_self, List.replicate_zero, List.append_nil] at h; rw [<- HK0.out]; exact h
theorem Net.err_zero {n : Net} (h : n.err = 0) : n.P5 /\ ∀ k, k < n.nodes.length -> vA n.pipes.length n.pf n.pt (Net.on n.heads) k := by
 have h1 : n.P1 := by
  refine ⟨fun h2 => ?_, fun h2 => ?_⟩
  . rw [Net.err_many h2] at h; cases h
  . rw [Net.err_none h2] at h; cases h
 have hfirst : ∀ {m : Nat} {f : Nat -> Int}, zM m f ≠ 0 -> ∃ k, k < m /\ (∀ j, j < k -> f j = 0) /\ f k ≠ 0 := by
  intro m f
  induction m with
  | zero => intro h; exact absurd rfl h
  | succ m ih =>
    intro h; unfold zM at h
    by_cases h0 : zM m f = 0
    . rw [if_pos h0] at h
      exact ⟨m, by omega, zJ.1 h0, h⟩
    . obtain ⟨k, hk, h2, h3⟩ := ih h0
      exact ⟨k, by omega, h2, h3⟩
 have h2 : n.P2 := ⟨h1, Classical.byContradiction fun hne => by
  obtain ⟨k, hk, h3, h4⟩ := hfirst hne
  have := Net.err_node h1 hk h3 rfl h4
  exact h4 (this.symm.trans h)⟩
 have h48 : ¬ 48 < n.pipes.length := fun h3 => by rw [Net.err_pipes h2 h3] at h; cases h
 have h3 : n.P3 := ⟨h2, h48, Classical.byContradiction fun hne => by
  obtain ⟨k, hk, h3, h4⟩ := hfirst hne
  have := Net.err_pipe h2 h48 hk h3 rfl h4
  exact h4 (this.symm.trans h)⟩
 have h4 : n.P4 := ⟨h3, Classical.byContradiction fun hne => by
  have := Net.err_heads h3 rfl hne
  exact hne (this.symm.trans h)⟩
 have h5 : n.P5 := ⟨h4, Classical.byContradiction fun hne => by
  obtain ⟨k, hk, h3, h4'⟩ := hfirst hne
  have := Net.err_well h4 hk h3 rfl h4'
  exact h4' (this.symm.trans h)⟩
 refine ⟨h5, Classical.byContradiction fun hne => ?_⟩
 have := (Net.err_end h5).1 hne
 rw [h] at this; cases this
theorem zgl {q : Rat} (h : zS 12 q) : Dz 12 q := zS.sz h
def zm1 (l : List yI) : Prop := ∀ v ∈ l, zP v.value = 0
theorem zm1.text {l : List yI} (h : zm1 l) (k : Nat) : Y7 l (k : Int) = zi ((Net.at_ l k).getD 0) /\ (l.find? (fun v => v.node == (k : Int))).isSome = (Net.at_ l k).isSome /\ zS 12 ((Net.at_ l k).getD 0) := by
 unfold Y7 Net.at_
 cases hf : l.find? (fun v => v.node == (k : Int)) with
 | none => exact ⟨(yA.2 rfl).symm, rfl, by have := Dz.short (Dz.zero 1) (show 1 < 12 by omega); simpa using this⟩
 | some v =>
   obtain ⟨q, h1, h2, h3, h4⟩ := vz (h v (List.mem_of_find?_eq_some hf)); refine ⟨?_, rfl, ?_⟩
   . simp only [Option.map_some, Option.getD_some]
     rw [h3]; exact h4
   . simp only [Option.map_some, Option.getD_some]
     rw [h3]; exact h2
theorem Net.P4.levs {n : Net} (h : n.P4) : zm1 n.heads := by
 intro v hv
 obtain ⟨i, hi, rfl⟩ := List.mem_iff_getElem.1 hv
 exact (Net.level_ok (zJ.1 h.2 i hi) hi).2.2.1
theorem Net.P5.levs {n : Net} (h : n.P5) : zm1 n.wells := by
 intro v hv
 obtain ⟨i, hi, rfl⟩ := List.mem_iff_getElem.1 hv
 exact (Net.level_ok (Net.wellErr_ok (zJ.1 h.2 i hi)).1 hi).2.2.1
theorem zwv {l : List yI} {k : Nat} (h : Net.on l k) : Net.at_ l k ≠ none := by
 obtain ⟨v, hv, e⟩ := h
 unfold Net.at_
 intro h2
 have h3 := (Net.find_isSome (l := l) (z := (k : Int))).2 (List.mem_map.2 ⟨v, hv, e⟩)
 cases hf : l.find? (fun v => v.node == (k : Int)) with
 | none => rw [hf] at h3; cases h3
 | some v => rw [hf] at h2; cases h2
theorem zf0 {n : Net} {cs : List (List UInt8)} (h : yV n cs = 0) : cs.length = n.pipes.length /\ ∀ i (hi : i < cs.length), cs[i] = zi (vP (cs.getD i [])) /\ zS 12 (vP (cs.getD i [])) /\ 0 < vP (cs.getD i []) := by
 unfold yV at h
 by_cases hl : cs.length = n.pipes.length
 . rw [if_neg (by omega)] at h
   refine ⟨hl, fun i hi => ?_⟩; have h1 := zJ.1 h i hi; have hge : cs.getD i [] = cs[i] := by simp [List.getD, List.getElem?_eq_getElem hi]
   rw [hge] at h1 |-
   have hne : zP cs[i] = 0 := by
    unfold yB at h1
    by_cases h0 : zP cs[i] = 0
    . exact h0
    . rw [if_pos h0] at h1; exact absurd h1 h0
   obtain ⟨q, e1, e2, e3, e4⟩ := vz hne; obtain ⟨q', f1, f2, f3⟩ := zjs h1; have : q = q' := X3 (e4.symm.trans f1); subst this; rw [e3]; exact ⟨e4, e2, f3⟩
 . rw [if_pos (by omega)] at h; cases h
def yl (cs : List (List UInt8)) : Nat -> Rat := fun i => vP (cs.getD i [])
def zfq (N : Nat) : Nat -> Bool := fun k => (List.replicate N true).getD k false
theorem Net.piped {n : Net} (h : n.P3) {c : Nat -> Rat} (hc : ∀ i, i < n.pipes.length -> 0 < c i) : Xk n.nodes.length n.pipes.length n.pf n.pt c := by
 have he := h.ends
 refine ⟨fun i hi => (he i hi).2.1, fun i hi => (he i hi).2.2.2, fun i hi e => ?_, hc⟩
 have h0 := (Net.pipe_ends (zJ.1 h.2.2 i hi)).2.2.2.2.1
 have e1 : n.pipes.getD i default = n.pipes[i] := by simp [List.getD, List.getElem?_eq_getElem hi]
 rw [e1, (he i hi).1, (he i hi).2.2.1, e] at h0
 exact h0 rfl
theorem XX {n : Net} {cs : List (List UInt8)} (h0 : n.err = 0) (hc : yV n cs = 0) (hN : n.nodes.length <= 6) (hp : n.pipes.length <= 9) :
 xh n.nodes.length n.pipes.length n.pf n.pt (yl cs) (Net.at_ n.heads) (fun k => (Net.at_ n.wells k).getD 0) (zfq n.nodes.length) := by
 obtain ⟨h5, hj⟩ := Net.err_zero h0
 obtain ⟨hl, hcs⟩ := zf0 hc
 exact {
  piped := Net.piped h5.1.1 (fun i hi => (hcs i (by omega)).2.2)
  tied := fun k hk _ => (hj k hk).mono fun j hj => ⟨Net.on_lt h5.1 j hj, zwv hj⟩
  cd := fun i hi => zgl (hcs i (by omega)).2.1
  fd := fun k _ => zgl (h5.1.levs.text k).2.2
  wd := fun k _ => zgl (h5.levs.text k).2.2
  hN := hN
  hp := hp }
def vT (n : Net) (cs : List (List UInt8)) (h : Nat -> Rat) : Prop := vV n.nodes.length n.pipes.length n.pf n.pt (yl cs) (Net.at_ n.heads) (fun k => (Net.at_ n.wells k).getD 0) (zfq n.nodes.length) h
def XS (n : Net) (cs : List (List UInt8)) (w : World) (e : Ending) (w' : World) : Prop :=
 Below w.heap.size w w' /\ ((yL n cs ≠ 0 /\ e = .returned (.tuple #[.slice none 0 0, .int .i64 (yL n cs)])) \/
  (yL n cs = 0 /\ ∃ (A : Option Addr) (cap : Nat) (h : Nat -> Rat), e = .returned (.tuple #[.slice A n.nodes.length cap, .int .i64 0]) /\ cap = n.nodes.length /\ vT n cs h /\ (∀ k, k < n.nodes.length -> Dz 13000 (h k)) /\
    zD w' w'.heap.size 1 A n.nodes.length (row n.nodes.length fun k => str (zi (h k)))))
theorem YS (vn vc : Value) (n : Net) (cs : List (List UInt8)) (w : World) (hn : Zq w vn n) (hc : yJ w vc cs) (hsz : n.err = 0 -> n.nodes.length <= 6 /\ n.pipes.length <= 9) :
 Calls Tryz.prog 14 #[vn, vc] w (XS n cs w) := by
 have h1 := fun w' (h : Below w.heap.size w w') => zkr vn vc n cs w' (hn.below h) (hc.below h)
 have h2 := fun w' (h : Below w.heap.size w w') => zi6 vn n w' (hn.below h)
 have HNET := ze hn
 have HCN := ze hc
 obtain ⟨x, HX⟩ : ∃ x, Hid (yL n cs = x) := ⟨_, ze rfl⟩
 rw [HX.out] at h1
 unfold XS
 rw [HX.out]
 obtain ⟨A0, k0, c0, A1, k1, c1, A2, k2, c2, A3, k3, c3, rfl, hn0, hn1, hn2, hn3⟩ := hn
 have HN2 := ze hn2
 have HN3 := ze hn3
 have HW := ze (zg w (.cells #[.slice A0 k0 c0, .slice A1 k1 c1, .slice A2 k2 c2, .slice A3 k3 c3] 26))
 have HK := ze (Blk.new w 26 #[.slice A0 k0 c0, .slice A1 k1 c1, .slice A2 k2 c2, .slice A3 k3 c3])
 clear hn0 hn1 hn2 hn3 hc
 obtain ⟨r0, r1, r2, r3, rL⟩ := yG HK.out
 by_cases h0 : x = 0
 . have hz : n.err = 0 /\ yV n cs = 0 := by
    have h := HX.out; unfold yL at h
    by_cases h3 : n.err = 0
    . rw [if_neg (by rw [h3]; decide)] at h; exact ⟨h3, by rw [h]; exact h0⟩
    . rw [if_pos h3] at h; exact absurd (h.trans h0) h3
   have HG := ze (XX hz.1 hz.2 (hsz hz.1).1 (hsz hz.1).2); have HP5 := ze (Net.err_zero hz.1).1; have HCG := ze (zf0 hz.2); clear hz hsz
   have h3 := fun w' vb (hB : Below w.heap.size w w') (hb : ZG w' vb (List.replicate n.nodes.length true)) => zk8 (.agg #[.slice A0 k0 c0, .slice A1 k1 c1, .slice A2 k2 c2, .slice A3 k3 c3]) vc (.slice A2 k2 c2) (.slice A3 k3 c3) vb n cs n.heads n.wells (List.replicate n.nodes.length true) (yl cs) (Net.at_ n.heads) (fun k => (Net.at_ n.wells k).getD 0) w' (HNET.out.below hB) (HCN.out.below hB) (HN2.out.below hB) (HN3.out.below hB) hb
    HCG.out.1 (fun i hi => (HCG.out.2 i hi).1) (fun k _ => ⟨(HP5.out.1.levs.text k).1, (HP5.out.1.levs.text k).2.1⟩) (fun k _ => (HP5.out.levs.text k).1) (by simp) HP5.out.1.1.ends HG.out
   subst h0; have H3 := ze h3; clear h3
   go_enter Tryz.func14, Tryz.ntmps14
   go_wp2_with fail; refine (h1 _ HW.out).mono ?_; rintro e WN ⟨rfl, hbB⟩
   try clear r0 r1 r2 r3 rL
   replace HK := kb_ HK hbB; replace HW := eb_ HW hbB; clear hbB; obtain ⟨r0, r1, r2, r3, rL⟩ := yG HK.out; clear h1; go_wp2_with fail
   (first | (go_region_held3 (fun w' => Hid (Below WN.heap.size WN w') /\ w'.cell? ⟨w.heap.size, 0, none⟩ = some (.slice A0 k0 c0) /\ w'.cell? ⟨w.heap.size, 1, none⟩ = some (.slice A1 k1 c1) /\ w'.cell? ⟨w.heap.size, 2, none⟩ = some (.slice A2 k2 c2) /\ w'.cell? ⟨w.heap.size, 3, none⟩ = some (.slice A3 k3 c3) /\ w.heap.size < w'.heap.size)
     (first
       | (with_reducible refine zU ?_ (fun hB => ⟨zr hB rL r0, zr hB rL r1, zr hB rL r2, zr hB rL r3, zd7 hB rL⟩); with_reducible exact zK _)
       | (go_split_ands; with_reducible refine zU ?_ (fun hB => ⟨zr hB rL r0, zr hB rL r1, zr hB rL r2, zr hB rL r3, zd7 hB rL⟩); first | with_reducible exact z7 ‹_› ‹_› | with_reducible exact Z8 ‹_› | with_reducible exact ys _ _))
     (first
       | (go_at_call 43; go_split_ands; refine (h2 _ (ext HW.out (zz (by assumption : Hid (Below WN.heap.size WN _))))).mono ?_; rintro e w1 ⟨v1, rfl, hv1, hb1⟩; have HV := ze hv1; clear hv1)
       | (go_at_call 36; go_split_ands; refine (H3.out _ _ (ext HW.out (zz (by assumption : Hid (Below WN.heap.size WN _)))) HV.out).mono ?_; rintro e w2 ⟨A9, cap9, h9, rfl, hcap, hIs, hdz, hrd, hb2⟩; have HIS := ze hIs; have HDZ := ze hdz; have HRD := ze hrd; have HCAP := ze hcap; clear hIs hdz hrd hcap))) | fail "region")
   go_split_ands; have HBZ := zz (by assumption : Hid (Below WN.heap.size WN _)); obtain ⟨w4, hWX, HBY⟩ := (⟨_, rfl, HBZ⟩ : ∃ X, X = _ /\ Below WN.heap.size WN X); rw [<- hWX] at HRD |-; clear hWX HBZ
   try clear r0 r1 r2 r3 rL
   replace HK := kb_ HK HBY; replace HW := eb_ HW HBY; clear HBY; obtain ⟨r0, r1, r2, r3, rL⟩ := yG HK.out; go_wp2_with fail; go_ret2; exact ⟨HW.out, .inr ⟨trivial, A9, cap9, h9, rfl, HCAP.out, HIS.out, HDZ.out, HRD.out⟩⟩
 . have hI : (x != 0) = true := by rw [bne_iff_ne]; exact h0
   have HNE := ze h0; clear h0 h2
   go_enter Tryz.func14, Tryz.ntmps14
   go_wp2_with fail; refine (h1 _ HW.out).mono ?_; rintro e WN ⟨rfl, hbB⟩
   try clear r0 r1 r2 r3 rL
   replace HK := kb_ HK hbB; replace HW := eb_ HW hbB; clear hbB; obtain ⟨r0, r1, r2, r3, rL⟩ := yG HK.out; clear h1; go_wp2_with fail; go_ret2; exact ⟨HW.out, .inl ⟨HNE.out, rfl⟩⟩
def yS : Net := ⟨[[112, 105, 116], [109, 105, 100], [114, 105, 118, 101, 114]], [⟨[97], 0, 1, [49], [50]⟩, ⟨[98], 1, 2, [49], [49]⟩], [⟨0, [48]⟩, ⟨2, [57]⟩], []⟩
theorem XU (k : Nat) : zi (k : Rat) = dec k := by
 unfold zi
 simp
 exact if_neg (by omega)
theorem dec1 : dec 1 = [49] := by simp [dec, digs]; rfl
theorem dec2 : dec 2 = [50] := by simp [dec, digs]; rfl
theorem dec3 : dec 3 = [51] := by simp [dec, digs]; rfl
theorem dec9 : dec 9 = [57] := by simp [dec, digs]; rfl
theorem V1 {k : Nat} (h : k < 10) : zS 12 (k : Rat) := by
 refine Dz.short (e := 1) ⟨?_, ?_⟩ (by omega)
 . simp; omega
 . simp
theorem zma {l : List UInt8} {q : Rat} (h : zi q = l) (hs : zS 12 q) : zl l = some q /\ zP l = 0 /\ vP l = q := by
 have h1 : zl l = some q := by rw [<- h]; exact vE (Dz.short (zS.sz hs) (by omega))
 refine ⟨h1, ?_, ?_⟩
 . unfold zP; rw [h1]; simp only; rw [if_pos hs]
 . unfold vP; rw [h1]; rfl
theorem num0 : zP [48] = 0 /\ vP [48] = 0 := (zma (q := ((0 : Nat) : Rat)) (by rw [XU]; exact xM) (V1 (by omega))).2
theorem zue : zP [49] = 0 /\ vP [49] = 1 := (zma (q := ((1 : Nat) : Rat)) (by rw [XU]; exact dec1) (V1 (by omega))).2
theorem zv2 : zP [50] = 0 /\ vP [50] = 2 := (zma (q := ((2 : Nat) : Rat)) (by rw [XU]; exact dec2) (V1 (by omega))).2
theorem num9 : zP [57] = 0 /\ vP [57] = 9 := (zma (q := ((9 : Nat) : Rat)) (by rw [XU]; exact dec9) (V1 (by omega))).2
theorem zwp : yS.P5 := by
 have h1 : yS.P1 := by unfold Net.P1; decide
 have h2 : yS.P2 := ⟨h1, by decide⟩
 have h3 : yS.P3 := ⟨h2, by decide, by
  apply zJ.2
  intro k hk
  have hk : k < 2 := hk
  unfold Net.pipeErr
  rcases (show k = 0 \/ k = 1 by omega) with rfl | rfl
  . simp [yS, zue.1, zue.2, zv2.1, zv2.2, xI, zee, ym, yT]; grind
  . simp [yS, zue.1, zue.2, xI, zee, ym, yT]; grind⟩
 have h4 : yS.P4 := ⟨h3, by
  apply zJ.2
  intro k hk
  have hk : k < 2 := hk
  unfold Net.levelErr
  rcases (show k = 0 \/ k = 1 by omega) with rfl | rfl
  . simp [yS, num0.1]
  . simp [yS, num9.1]⟩
 exact ⟨h4, rfl⟩
theorem zvr : yS.err = 0 := by
 refine (Net.err_end zwp).2 fun k hk => ?_
 have hk : k < 3 := hk
 have h0 : vA yS.pipes.length yS.pf yS.pt (Net.on yS.heads) 0 := .base ⟨⟨0, [48]⟩, by simp [yS], rfl⟩
 have h2 : vA yS.pipes.length yS.pf yS.pt (Net.on yS.heads) 2 := .base ⟨⟨2, [57]⟩, by simp [yS], rfl⟩
 have h1 : vA yS.pipes.length yS.pf yS.pt (Net.on yS.heads) 1 := .right (i := 0) (by decide) h0
 rcases (show k = 0 \/ k = 1 \/ k = 2 by omega) with rfl | rfl | rfl
 . exact h0
 . exact h1
 . exact h2
theorem zuf : yV yS [[50], [49]] = 0 := by
 unfold yV
 rw [if_neg (by decide)]
 apply zJ.2
 intro k hk
 have hk : k < 2 := hk
 unfold yB
 rcases (show k = 0 \/ k = 1 by omega) with rfl | rfl
 . simp [zv2.1, zv2.2]; grind
 . simp [zue.1, zue.2]; grind
theorem zrv {h : Nat -> Rat} (hh : vT yS [[50], [49]] h) : zi (h 0) = [48] /\ zi (h 1) = [51] /\ zi (h 2) = [57] := by
 have e0 := hh 0 (by decide)
 have e1 := hh 1 (by decide)
 have e2 := hh 2 (by decide)
 have f0 : Net.at_ yS.heads 0 = some 0 := by simp [Net.at_, yS, num0.2]
 have f1 : Net.at_ yS.heads 1 = none := by simp [Net.at_, yS]
 have f2 : Net.at_ yS.heads 2 = some 9 := by simp [Net.at_, yS, num9.2]
 rw [f0] at e0
 rw [f1] at e1
 rw [f2] at e2
 simp only at e0 e1 e2
 have ha : zfq yS.nodes.length 1 = true := rfl
 rw [if_pos ha] at e1
 have hw : Net.at_ yS.wells 1 = none := rfl
 rw [hw] at e1
 have c0 : yl [[50], [49]] 0 = 2 := zv2.2
 have c1 : yl [[50], [49]] 1 = 1 := zue.2
 have hf : vJ yS.pipes.length yS.pf yS.pt (yl [[50], [49]]) h 1 = 2 * (h 1 - h 0) + 1 * (h 1 - h 2) := by
  show vJ 2 yS.pf yS.pt (yl [[50], [49]]) h 1 = _
  rw [YV, YV, Vy]
  have p0 : yS.pf 0 = 0 := rfl
  have p1 : yS.pf 1 = 1 := rfl
  have q0 : yS.pt 0 = 1 := rfl
  have q1 : yS.pt 1 = 2 := rfl
  rw [p0, p1, q0, q1, c0, c1]
  simp
  grind
 rw [hf, e0, e2] at e1
 have h1 : h 1 = 3 := by simp at e1; grind
 refine ⟨?_, ?_, ?_⟩
 . rw [e0]; exact yA.2 rfl
 . rw [h1]; exact (XU 3).trans dec3
 . rw [e2]; exact (XU 9).trans dec9
def SamR (la lb : List (List UInt8)) (w : World) (iv : Value) (wr : World) : Prop := ∃ i : Nat, i <= la.length /\ iv = .int .i64 i /\ Hid (la.take i = lb.take i) /\ Hid (Below w.heap.size w wr)
theorem zgk (A B : Option Addr) (ca cb : Nat) (la lb : List (List UInt8)) (w : World) (hA : zD w w.heap.size 1 A la.length (la.map str)) (hB : zD w w.heap.size 1 B lb.length (lb.map str)) (h1 : la.length <= 1000) (h2 : lb.length <= 1000) :
 Calls Tryz.prog 16 #[.slice A la.length ca, .slice B lb.length cb] w (vB w (.bool (decide (la = lb)))) := by
 have HA := ze hA
 have HB := ze hB
 have HW := ze (zF w)
 obtain ⟨r, HR⟩ : ∃ r, Hid (decide (la = lb) = r) := ⟨_, ze rfl⟩
 rw [HR.out]
 clear hA hB
 by_cases hl : la.length = lb.length
 . have HL := ze hl
   have hI : ((la.length : Int) != (lb.length : Int)) = false := by rw [hl]; simp
   clear hl
   go_enter Tryz.func16, Tryz.ntmps16
   go_wp2_with fail
   go_loopw [5] (SamR la lb w) (fun iv _ => la.length - (intOf iv).toNat)
   case atStart => exact ⟨0, Nat.zero_le _, rfl, rfl, HW⟩
   case round =>
    clear HW; obtain ⟨i, hi, rfl, HE, HW⟩ := hrel
    by_cases hlt : i < la.length
    . have hlb : i < lb.length := by have := HL.out; omega
      have hi1 : (i : Int) < (la.length : Int) := by omega
      have hi2 : (i : Int) < (lb.length : Int) := by omega
      obtain ⟨aa, ea, la1, qa⟩ : ∃ ad, A = some ad /\ ad.block < wr.heap.size /\ wr.cell? (ad.add i) = some (str la[i]) := by
       obtain ⟨ad, e, hb, hc⟩ := (HA.out.below HW.out).2 (by omega); exact ⟨ad, e, Nat.lt_of_lt_of_le hb HW.out.size, hc i _ (by simp [hlt])⟩
      obtain ⟨ab, eb, lb1, qb⟩ : ∃ ad, B = some ad /\ ad.block < wr.heap.size /\ wr.cell? (ad.add i) = some (str lb[i]) := by
       obtain ⟨ad, e, hb, hc⟩ := (HB.out.below HW.out).2 (by omega); exact ⟨ad, e, Nat.lt_of_lt_of_le hb HW.out.size, hc i _ (by simp [hlb])⟩
      subst ea; subst eb
      by_cases he : la[i] = lb[i]
      . have HNX : Hid (la.take (i + 1) = lb.take (i + 1)) := ze (by rw [List.take_succ_eq_append_getElem hlt, List.take_succ_eq_append_getElem hlb, HE.out, he])
        rw [he] at qa; have hs1 : (lb[i] == lb[i]) = true := by simp
        have hs2 : (lb[i] != lb[i]) = false := by simp
        clear he la1 lb1; generalize lb[i] = x at qa qb hs1 hs2; go_wp2_with fail
        go_quiet (fail)
        have hbB := zp wr nq; replace HW := eb_ HW hbB; clear hbB; generalize wr.drewN nq = WN at HW |-; clear nq; go_wp2_with fail; go_round
        case rel => exact ⟨i + 1, by omega, by go_num, HNX, HW⟩
        case measure => simp [intOf]; omega
      . have HF : Hid (r = false) := ze (by
         rw [<- HR.out, decide_eq_false_iff_not]; intro e; subst e
         exact he rfl)
        have hs1 : (la[i] == lb[i]) = false := by simpa using he
        have hs2 : (la[i] != lb[i]) = true := by simpa using he
        clear he la1 lb1; generalize la[i] = x at qa hs1 hs2; generalize lb[i] = y at qb hs1 hs2; go_wp2_with fail
        go_quiet (fail)
        have hbB := zp wr nq; replace HW := eb_ HW hbB; clear hbB; generalize wr.drewN nq = WN at HW |-; clear nq; go_wp2_with fail; go_ret; exact ⟨zt HF.out, HW.out⟩
    . obtain rfl : i = la.length := by omega
      have HF : Hid (r = true) := ze (by
       rw [<- HR.out, decide_eq_true_iff]; have h := HE.out; rw [List.take_length, HL.out, List.take_length] at h
       exact h)
      go_wp2_with fail; go_ret; exact ⟨zt HF.out, HW.out⟩
 . have HF : Hid (r = false) := ze (by
    rw [<- HR.out, decide_eq_false_iff_not]; intro e
    exact hl (by rw [e]))
   have hI : ((la.length : Int) != (lb.length : Int)) = true := by rw [bne_iff_ne]; omega
   clear hl
   go_enter Tryz.func16, Tryz.ntmps16
   go_wp2_with fail; go_ret; exact ⟨zt HF.out, HW.out⟩
theorem Y6 {w : World} {g size n : Nat} {t : TypeId} {cs : List Value} (h : Blk w g t cs.toArray) (hn : cs.length = n * size) : zD w w.heap.size size (some ⟨g, 0, none⟩) n cs := by
 refine ⟨hn, fun _ => ⟨_, rfl, h.lt, fun j u hu => ?_⟩⟩
 have e : (⟨g, 0, none⟩ : Addr).add j = ⟨g, j, none⟩ := by
  unfold Addr.add
  by_cases hj : j = 0
  . subst hj; rfl
  . simp [hj]
 rw [e, h.cell j, List.getElem?_toArray]
 exact hu
def zvl (n : Net) (w : World) (e : Ending) (w' : World) : Prop := ∃ v, e = .returned v /\ Zq w' v n /\ Below w.heap.size w w'
theorem zko (w : World) : Calls Tryz.prog 33 #[] w (zvl yS w) := by
 have h1 : Blk ((((w.alloc (.cells #[.slice (some ⟨w.heap.size + 1, 0, none⟩) 3 3, .slice (some ⟨w.heap.size + 1 + 1, 0, none⟩) 2 2, .slice (some ⟨w.heap.size + 1 + 1 + 1, 0, none⟩) 2 2, .slice none 0 0] 26)).alloc (.cells ([str [112, 105, 116], str [109, 105, 100], str [114, 105, 118, 101, 114]] : List Value).toArray 9)).alloc (.cells ([str [97], .int .i64 0, .int .i64 1, str [49], str [50], str [98], .int .i64 1, .int .i64 2, str [49], str [49]] : List Value).toArray 47)).alloc (.cells ([.int .i64 0, str [48], .int .i64 2, str [57]] : List Value).toArray 49)) w.heap.size 26 #[.slice (some ⟨w.heap.size + 1, 0, none⟩) 3 3, .slice (some ⟨w.heap.size + 1 + 1, 0, none⟩) 2 2, .slice (some ⟨w.heap.size + 1 + 1 + 1, 0, none⟩) 2 2, .slice none 0 0] := (((Blk.new w _ _).alloc _).alloc _).alloc _
 have h2 : Blk ((((w.alloc (.cells #[.slice (some ⟨w.heap.size + 1, 0, none⟩) 3 3, .slice (some ⟨w.heap.size + 1 + 1, 0, none⟩) 2 2, .slice (some ⟨w.heap.size + 1 + 1 + 1, 0, none⟩) 2 2, .slice none 0 0] 26)).alloc (.cells ([str [112, 105, 116], str [109, 105, 100], str [114, 105, 118, 101, 114]] : List Value).toArray 9)).alloc (.cells ([str [97], .int .i64 0, .int .i64 1, str [49], str [50], str [98], .int .i64 1, .int .i64 2, str [49], str [49]] : List Value).toArray 47)).alloc (.cells ([.int .i64 0, str [48], .int .i64 2, str [57]] : List Value).toArray 49)) (w.heap.size + 1) 9 ([str [112, 105, 116], str [109, 105, 100], str [114, 105, 118, 101, 114]] : List Value).toArray := by
  have h := ((Blk.new (w.alloc (.cells #[.slice (some ⟨w.heap.size + 1, 0, none⟩) 3 3, .slice (some ⟨w.heap.size + 1 + 1, 0, none⟩) 2 2, .slice (some ⟨w.heap.size + 1 + 1 + 1, 0, none⟩) 2 2, .slice none 0 0] 26)) 9 ([str [112, 105, 116], str [109, 105, 100], str [114, 105, 118, 101, 114]] : List Value).toArray).alloc (.cells ([str [97], .int .i64 0, .int .i64 1, str [49], str [50], str [98], .int .i64 1, .int .i64 2, str [49], str [49]] : List Value).toArray 47)).alloc (.cells ([.int .i64 0, str [48], .int .i64 2, str [57]] : List Value).toArray 49)
  simp only [World.size_alloc] at h
  exact h
 have h3 : Blk ((((w.alloc (.cells #[.slice (some ⟨w.heap.size + 1, 0, none⟩) 3 3, .slice (some ⟨w.heap.size + 1 + 1, 0, none⟩) 2 2, .slice (some ⟨w.heap.size + 1 + 1 + 1, 0, none⟩) 2 2, .slice none 0 0] 26)).alloc (.cells ([str [112, 105, 116], str [109, 105, 100], str [114, 105, 118, 101, 114]] : List Value).toArray 9)).alloc (.cells ([str [97], .int .i64 0, .int .i64 1, str [49], str [50], str [98], .int .i64 1, .int .i64 2, str [49], str [49]] : List Value).toArray 47)).alloc (.cells ([.int .i64 0, str [48], .int .i64 2, str [57]] : List Value).toArray 49)) (w.heap.size + 1 + 1) 47 ([str [97], .int .i64 0, .int .i64 1, str [49], str [50], str [98], .int .i64 1, .int .i64 2, str [49], str [49]] : List Value).toArray := by
  have h := (Blk.new ((w.alloc (.cells #[.slice (some ⟨w.heap.size + 1, 0, none⟩) 3 3, .slice (some ⟨w.heap.size + 1 + 1, 0, none⟩) 2 2, .slice (some ⟨w.heap.size + 1 + 1 + 1, 0, none⟩) 2 2, .slice none 0 0] 26)).alloc (.cells ([str [112, 105, 116], str [109, 105, 100], str [114, 105, 118, 101, 114]] : List Value).toArray 9)) 47 ([str [97], .int .i64 0, .int .i64 1, str [49], str [50], str [98], .int .i64 1, .int .i64 2, str [49], str [49]] : List Value).toArray).alloc (.cells ([.int .i64 0, str [48], .int .i64 2, str [57]] : List Value).toArray 49)
  simp only [World.size_alloc] at h
  exact h
 have h4 : Blk ((((w.alloc (.cells #[.slice (some ⟨w.heap.size + 1, 0, none⟩) 3 3, .slice (some ⟨w.heap.size + 1 + 1, 0, none⟩) 2 2, .slice (some ⟨w.heap.size + 1 + 1 + 1, 0, none⟩) 2 2, .slice none 0 0] 26)).alloc (.cells ([str [112, 105, 116], str [109, 105, 100], str [114, 105, 118, 101, 114]] : List Value).toArray 9)).alloc (.cells ([str [97], .int .i64 0, .int .i64 1, str [49], str [50], str [98], .int .i64 1, .int .i64 2, str [49], str [49]] : List Value).toArray 47)).alloc (.cells ([.int .i64 0, str [48], .int .i64 2, str [57]] : List Value).toArray 49)) (w.heap.size + 1 + 1 + 1) 49 ([.int .i64 0, str [48], .int .i64 2, str [57]] : List Value).toArray := by
  have h := Blk.new (((w.alloc (.cells #[.slice (some ⟨w.heap.size + 1, 0, none⟩) 3 3, .slice (some ⟨w.heap.size + 1 + 1, 0, none⟩) 2 2, .slice (some ⟨w.heap.size + 1 + 1 + 1, 0, none⟩) 2 2, .slice none 0 0] 26)).alloc (.cells ([str [112, 105, 116], str [109, 105, 100], str [114, 105, 118, 101, 114]] : List Value).toArray 9)).alloc (.cells ([str [97], .int .i64 0, .int .i64 1, str [49], str [50], str [98], .int .i64 1, .int .i64 2, str [49], str [49]] : List Value).toArray 47)) 49 ([.int .i64 0, str [48], .int .i64 2, str [57]] : List Value).toArray
  simp only [World.size_alloc] at h
  exact h
 have HW : Hid (Below w.heap.size w ((((w.alloc (.cells #[.slice (some ⟨w.heap.size + 1, 0, none⟩) 3 3, .slice (some ⟨w.heap.size + 1 + 1, 0, none⟩) 2 2, .slice (some ⟨w.heap.size + 1 + 1 + 1, 0, none⟩) 2 2, .slice none 0 0] 26)).alloc (.cells ([str [112, 105, 116], str [109, 105, 100], str [114, 105, 118, 101, 114]] : List Value).toArray 9)).alloc (.cells ([str [97], .int .i64 0, .int .i64 1, str [49], str [50], str [98], .int .i64 1, .int .i64 2, str [49], str [49]] : List Value).toArray 47)).alloc (.cells ([.int .i64 0, str [48], .int .i64 2, str [57]] : List Value).toArray 49))) := ze (ext (ext (ext (zg w _) (zg _ _)) (zg _ _)) (zg _ _))
 have r0 := h1.cell 0
 have r1 := h1.cell 1
 have r2 := h1.cell 2
 have r3 := h1.cell 3
 have H2 := ze (Y6 (size := 1) (n := 3) h2 rfl)
 have H3 := ze (Y6 (size := 5) (n := 2) h3 rfl)
 have H4 := ze (Y6 (size := 2) (n := 2) h4 rfl)
 simp only [List.getElem?_toArray, List.getElem?_cons_zero, List.getElem?_cons_succ] at r0 r1 r2 r3
 clear h1 h2 h3 h4
 go_enter Tryz.func33, Tryz.ntmps33
 go_wp2_with fail
 generalize ((((w.alloc (.cells #[.slice (some ⟨w.heap.size + 1, 0, none⟩) 3 3, .slice (some ⟨w.heap.size + 1 + 1, 0, none⟩) 2 2, .slice (some ⟨w.heap.size + 1 + 1 + 1, 0, none⟩) 2 2, .slice none 0 0] 26)).alloc (.cells ([str [112, 105, 116], str [109, 105, 100], str [114, 105, 118, 101, 114]] : List Value).toArray 9)).alloc (.cells ([str [97], .int .i64 0, .int .i64 1, str [49], str [50], str [98], .int .i64 1, .int .i64 2, str [49], str [49]] : List Value).toArray 47)).alloc (.cells ([.int .i64 0, str [48], .int .i64 2, str [57]] : List Value).toArray 49)) = WE at HW H2 H3 H4 r0 r1 r2 r3 |-
 refine bodyPost_ret (v := .agg #[.slice (some ⟨w.heap.size + 1, 0, none⟩) 3 3, .slice (some ⟨w.heap.size + 1 + 1, 0, none⟩) 2 2, .slice (some ⟨w.heap.size + 1 + 1 + 1, 0, none⟩) 2 2, .slice none 0 0]) (by simp [results, Tryz.results33, go_sem, r0, r1, r2, r3]) rfl ?_
 refine ⟨_, rfl, ⟨_, _, _, _, _, _, _, _, _, _, _, _, rfl, ⟨_, _, rfl, by decide, by unfold maxLen; decide, by decide, H2.out, ?_⟩, ⟨_, _, rfl, by decide, by unfold maxLen; decide, by decide, H3.out, ?_⟩, ⟨_, _, rfl, by decide, by unfold maxLen; decide, by decide, H4.out, ?_⟩, ⟨_, _, rfl, by decide, by unfold maxLen; decide, by decide, zD.none_, ?_⟩⟩, HW.out⟩
 . intro x hx; simp [yS] at hx; rcases hx with rfl | rfl | rfl <;> (unfold zO; simp)
 . intro x hx; simp [yS] at hx; rcases hx with rfl | rfl <;> (unfold zO; simp)
 . intro x hx; simp [yS] at hx; rcases hx with rfl | rfl <;> (unfold zO; simp)
 . intro x hx; simp [yS] at hx
theorem zv0 : yL yS [[50], [49]] = 0 := by
 unfold yL
 rw [if_neg (by rw [zvr]; decide)]
 exact zuf
theorem zsq {w : World} {A : Option Addr} {n c : Nat} {l : List (List UInt8)} (h : zD w w.heap.size 1 A n (l.map str)) (hn : n = l.length) (hc : n <= c) (hm : c <= 1000) (hs : ∀ x ∈ l, zO x) : yJ w (.slice A n c) l := by
 subst hn
 exact ⟨A, c, rfl, hc, by unfold maxLen; omega, by omega, h, hs⟩
theorem XI (w : World) : Calls Tryz.prog 11 #[] w (vB w (.bool true)) := by
 go_enter Tryz.func11, Tryz.ntmps11
 go_wp2_with fail
 refine (zko _).mono ?_
 rintro e w1 ⟨v, rfl, hnet, hb1⟩
 have HNET := ze hnet
 have HW := ze hb1
 clear hnet hb1
 have hx := zg w1 (.cells ([str [50], str [49]] : List Value).toArray 28)
 have hrd := Y6 (size := 1) (n := 2) (Blk.new w1 28 ([str [50], str [49]] : List Value).toArray) rfl
 have hh := YS v (.slice (some ⟨w1.heap.size, 0, none⟩) 2 2) yS [[50], [49]] _ (HNET.out.below hx) (zsq (l := [[50], [49]]) hrd rfl (by omega) (by omega) (by intro x hx; simp at hx; rcases hx with rfl | rfl <;> (unfold zO; simp))) (fun _ => ⟨by decide, by decide⟩)
 have HW2 := ze (ext HW.out hx)
 clear hx hrd
 go_wp2_with fail
 refine hh.mono ?_
 rintro e w2 ⟨hb2, h | ⟨_, A, cap, h, rfl, hcap, hnh, _, hr⟩⟩
 . exact absurd zv0 h.1
 . obtain ⟨f0, f1, f2⟩ := zrv hnh
   have e1 : (row yS.nodes.length fun k => str (zi (h k))) = ([[48], [51], [57]] : List (List UInt8)).map str := by
    show (row 3 fun k => str (zi (h k))) = _
    unfold row
    simp [List.range_succ, f0, f1, f2]
   rw [e1] at hr; have HR := ze hr; have HW3 := ze (ext HW2.out hb2); clear hh hb2 hnh hr hcap f0 f1 f2 e1 HNET; have hlen : yS.nodes.length = 3 := rfl; rw [hlen] at HR |-; have hx := zg w2 (.cells ([str [48], str [51], str [57]] : List Value).toArray 28); have hrd := Y6 (size := 1) (n := 3) (Blk.new w2 28 ([str [48], str [51], str [57]] : List Value).toArray) rfl; have hs := zgk A (some ⟨w2.heap.size, 0, none⟩) cap 3 [[48], [51], [57]] [[48], [51], [57]] _ ((HR.out.below hx).more hx.size) hrd (by decide) (by decide); have HW4 := ze (ext HW3.out hx); rw [decide_eq_true rfl] at hs; clear hx hrd hlen; go_wp2_with fail; refine hs.mono ?_; rintro e w3 ⟨rfl, hb3⟩; have HW5 := ze (ext HW4.out hb3); clear hb3 hs; go_wp2_with fail; go_ret; exact ⟨rfl, HW5.out⟩
end Go.Proofs.YtdecgcdkaaiglaaGreat
namespace Go.Proofs.YtdecgcdkaaiglaaGreat
def zn4 (m : Nat) (A : Tab) (B : Nat) : Prop := ∀ i, i < m -> ∀ c, c <= m -> ∃ z : Int, A i c = (z : Rat) /\ z.natAbs <= B
def zmj : Nat -> Nat -> Nat
 | 0, _ => 1
 | m + 1, B => (m + 1) * B * zmj m (2 * B * B)
theorem zce : ∀ (m : Nat) {B C : Nat}, B <= C -> zmj m B <= zmj m C
 | 0, _, _, _ => Nat.le_refl _
 | m + 1, B, C, h => by
   unfold zmj; exact Nat.mul_le_mul (Nat.mul_le_mul (Nat.le_refl _) h) (zce m (Nat.mul_le_mul (Nat.mul_le_mul (Nat.le_refl _) h) h))
theorem zp5 : ∀ (m e : Nat), m <= 9 -> zmj m (10 ^ e) <= 10 ^ ((e + 1) * (2 ^ m - 1))
 | 0, e, _ => by simp [zmj]
 | m + 1, e, h => by
   unfold zmj
   have h1 : 2 * 10 ^ e * 10 ^ e <= 10 ^ (2 * e + 1) := by
    rw [show 2 * e + 1 = e + e + 1 by omega, Nat.pow_succ, Nat.pow_add]; generalize 10 ^ e = x; rw [Nat.mul_assoc, Nat.mul_comm 2]; exact Nat.mul_le_mul (Nat.le_refl _) (by omega)
   have h2 := Nat.le_trans (zce m h1) (zp5 m (2 * e + 1) (by omega))
   have h3 : (m + 1) * 10 ^ e <= 10 ^ (e + 1) := by
    rw [Nat.pow_succ, Nat.mul_comm]; exact Nat.mul_le_mul (Nat.le_refl _) (by omega)
   refine Nat.le_trans (Nat.mul_le_mul h3 h2) ?_; rw [<- Nat.pow_add]; refine Nat.pow_le_pow_right (by omega) ?_; have h4 : 1 <= 2 ^ m := Nat.one_le_two_pow; have h5 : 2 ^ (m + 1) - 1 = 1 + 2 * (2 ^ m - 1) := by rw [Nat.pow_succ]; omega
   rw [h5, Nat.mul_add, Nat.mul_one, show 2 * e + 1 + 1 = (e + 1) * 2 by omega, Nat.mul_assoc]
   omega
theorem zmx {m : Nat} {A : Tab} (h : zgz (m + 1) A) : ∃ p, p < m + 1 /\ A p m ≠ 0 := by
 apply Classical.byContradiction
 intro hno
 have h0 : ∀ p, p < m + 1 -> A p m = 0 := fun p hp => Classical.byContradiction fun h3 => hno ⟨p, hp, h3⟩
 have := h (fun c => if c = m then 1 else 0) (fun i hi => by
  rw [vy (j := m) (by omega)]
  . rw [h0 i hi]; grind
  . intro c hc h1; rw [if_neg h1]; grind) m (by omega)
 rw [if_pos rfl] at this
 exact absurd this (by grind)
theorem xR.swap {m k p : Nat} {A : Tab} {x : Nat -> Rat} (hx : xR m A x) (hk : k < m) (hp : p < m) : xR m (swapped A k p) x := by
 intro i hi
 unfold swapped
 by_cases h1 : i = k
 . simp only [h1, if_true]; exact hx p hp
 . by_cases h2 : i = p
   . by_cases h3 : p = k
     . exact absurd (h2.trans h3) h1
     . simp only [h2, h3, if_true, if_false]; exact hx k hk
   . simp only [h1, h2, if_false]; exact hx i hi
theorem zn4.swap {m k p B : Nat} {A : Tab} (h : zn4 m A B) (hk : k < m) (hp : p < m) : zn4 m (swapped A k p) B := by
 intro i hi c hc
 unfold swapped
 by_cases h1 : i = k
 . simp only [h1, if_true]; exact h p hp c hc
 . by_cases h2 : i = p
   . by_cases h3 : p = k
     . exact absurd (h2.trans h3) h1
     . simp only [h2, h3, if_true, if_false]; exact h k hk c hc
   . simp only [h1, h2, if_false]; exact h i hi c hc
def zin (A : Tab) (m : Nat) : Tab := fun i c => A m m * A i (if c = m then m + 1 else c) - A i m * A m (if c = m then m + 1 else c)
theorem zhk {A : Tab} {m : Nat} (x : Nat -> Rat) (i : Nat) : yo m (fun c => zin A m i c * x c) = A m m * yo m (fun c => A i c * x c) - A i m * yo m (fun c => A m c * x c) := by
 rw [<- VF, <- VF, <- zd3]
 apply zR
 intro c hc
 unfold zin
 rw [if_neg (by omega)]
 grind
theorem zk1 {m B : Nat} {A : Tab} (h : zn4 (m + 1) A B) : zn4 m (zin A m) (2 * B * B) := by
 intro i hi c hc
 have hc' : (if c = m then m + 1 else c) <= m + 1 := by split <;> omega
 unfold zin
 generalize (if c = m then m + 1 else c) = d at hc'
 obtain ⟨z1, e1, b1⟩ := h m (by omega) m (by omega)
 obtain ⟨z2, e2, b2⟩ := h i (by omega) d hc'
 obtain ⟨z3, e3, b3⟩ := h i (by omega) m (by omega)
 obtain ⟨z4, e4, b4⟩ := h m (by omega) d hc'
 refine ⟨z1 * z2 - z3 * z4, by rw [e1, e2, e3, e4]; push_cast; rfl, ?_⟩
 have h1 := Nat.mul_le_mul b1 b2
 have h2 := Nat.mul_le_mul b3 b4
 rw [<- Int.natAbs_mul] at h1 h2
 rw [Nat.mul_assoc]
 omega
theorem znw {m : Nat} {A : Tab} (h : zgz (m + 1) A) (h0 : A m m ≠ 0) : zgz m (zin A m) := by
 intro y hy c hc
 have := h (fun c => if c = m then -(yo m (fun c => A m c * y c)) / A m m else y c) (fun i hi => by
  rw [yg, if_pos rfl]
  have e : yo m (fun c => A i c * (if c = m then -(yo m (fun c => A m c * y c)) / A m m else y c)) = yo m (fun c => A i c * y c) := zR fun k hk => by rw [if_neg (by omega)]
  rw [e]
  rcases Nat.lt_or_ge i m with h1 | h1
  . have h2 := hy i h1
    rw [zhk] at h2
    grind
  . obtain rfl : i = m := by omega
    grind) c (by omega)
 rw [if_neg (by omega)] at this
 exact this
theorem zh4 {m : Nat} {A : Tab} {x : Nat -> Rat} (h : xR (m + 1) A x) : xR m (zin A m) x := by
 intro i hi
 rw [zhk]
 unfold zin
 rw [if_pos rfl]
 have h1 := h i (by omega)
 have h2 := h m (by omega)
 rw [yg] at h1 h2
 grind
theorem V9 : ∀ (m B : Nat) (A : Tab) (x : Nat -> Rat), 0 < B -> zn4 m A B -> zgz m A -> xR m A x -> ∃ D : Int, D ≠ 0 /\ D.natAbs <= zmj m B /\ ∀ c, c < m -> xT D (zmj m B) (x c)
 | 0, B, A, x, hB, hW, hO, hS => ⟨1, by decide, by simp [zmj], fun c hc => absurd hc (by omega)⟩
 | m + 1, B, A, x, hB, hW, hO, hS => by
   obtain ⟨p, hp, hpv⟩ := zmx hO; have hO2 := hO.swapped (k := m) (p := p) (by omega) hp; have hS2 := hS.swap (k := m) (p := p) (by omega) hp; have hW2 := hW.swap (k := m) (p := p) (by omega) hp; have h0 : swapped A m p m m ≠ 0 := by unfold swapped; rw [if_pos rfl]; exact hpv
   generalize swapped A m p = A at hO2 hS2 hW2 h0
   obtain ⟨D, d1, d2, d3⟩ := V9 m (2 * B * B) (zin A m) x (by
    rw [Nat.mul_assoc]; exact Nat.mul_pos (by omega) (Nat.mul_pos hB hB)) (zk1 hW2) (znw hO2 h0) (zh4 hS2)
   have hrow := hS2 m (by omega); rw [yg] at hrow; have hW3 := fun c (hc : c <= m + 1) => hW2 m (by omega) c hc
   unfold zmj; generalize hG : zmj m (2 * B * B) = G at d2 d3; obtain ⟨z, ez, bz⟩ := hW3 m (by omega)
   have hz : z ≠ 0 := by
    intro e; rw [e] at ez; exact h0 ez
   have hmul : B * G <= (m + 1) * B * G := by
    rw [Nat.mul_assoc]; exact Nat.le_mul_of_pos_left _ (by omega)
   refine ⟨D * z, Int.mul_ne_zero d1 hz, ?_, fun c hc => ?_⟩
   . rw [Int.natAbs_mul]
     refine Nat.le_trans (Nat.mul_le_mul d2 bz) ?_; rw [Nat.mul_comm]; exact hmul
   . rcases Nat.lt_or_ge c m with h1 | h1
     . refine ((d3 c h1).scale z).mono (Nat.le_trans (Nat.mul_le_mul (Nat.le_refl _) bz) ?_)
       rw [Nat.mul_comm]; exact hmul
     . obtain rfl : c = m := by omega
       obtain ⟨y, ey, by_⟩ := hW3 (c + 1) (by omega)
       have hsum : xT D (c * (B * G)) (yo c (fun k => A c k * x k)) := xT.sum fun k hk => by
        obtain ⟨u, eu, bu⟩ := hW3 k (by omega); obtain ⟨v, ev, bv⟩ := d3 k hk; refine ⟨u * v, by rw [eu]; push_cast; rw [<- ev]; grind, ?_⟩; rw [Int.natAbs_mul]; exact Nat.mul_le_mul bu bv
       have hy : xT D (B * G) ((y : Rat)) := ⟨y * D, by push_cast; rfl, by rw [Int.natAbs_mul]; exact Nat.mul_le_mul by_ d2⟩; obtain ⟨t, et, bt⟩ := hy.sub hsum; refine ⟨t, ?_, ?_⟩
       . push_cast
         rw [<- et, <- ey, <- ez]
         grind
       . rw [Nat.mul_assoc, Nat.succ_mul]; omega
section
variable {N np : Nat} {pf pt : Nat -> Nat} {c : Nat -> Rat} {fx : Nat -> Option Rat} {wl : Nat -> Rat} {asked : Nat -> Bool}
theorem za8 {h : Nat -> Rat} (hh : vV N np pf pt c fx wl asked h) {k : Nat} (hk : k < N) : zi5 fx asked (fun i => h ((x9 (zo fx asked) N).getD i 0)) k = h k := by
 by_cases hF : zo fx asked k = true
 . rw [ZK _ _ hF, XC _ hk hF]
 . rw [Vz _ _ hF]
   have h1 := hh k hk; unfold xC
   cases hx : fx k with
   | some v => rw [hx] at h1; simp only at h1; rw [h1]; rfl
   | none =>
     rw [hx] at h1; simp only at h1; rw [if_neg (fun e => hF ((x8 fx asked).2 ⟨hx, e⟩))] at h1; rw [h1]; rfl
theorem zj8 {h : Nat -> Rat} (hp : Xk N np pf pt c) (hh : vV N np pf pt c fx wl asked h) : xR (yE (zo fx asked) N) (Zi pf pt c fx wl asked N np) (fun i => h ((x9 (zo fx asked) N).getD i 0)) := by
 rw [Y3]
 intro i hi
 obtain ⟨m1, m2, m3⟩ := vN _ hi
 rw [VX pf pt c fx wl asked hp _ hi np (Nat.le_refl _)]
 rw [ziz (h := h) (fun j hj => ⟨za8 hh (hp.from_lt j hj), za8 hh (hp.to_lt j hj)⟩)]
 have h1 := hh _ m1
 have h2 := (x8 fx asked).1 m2
 rw [h2.1] at h1
 simp only at h1
 rw [if_pos h2.2] at h1
 rw [h1]; grind
theorem zj0 {m X : Nat} {A : Tab} {x : Nat -> Rat} (h : zol m A X X) (hO : zgz m A) (hS : xR m A x) : ∃ D : Int, D ≠ 0 /\ D.natAbs <= zmj m (X + 1) /\ ∀ c, c < m -> xT D (zmj m (X + 1)) (x c) := by
 obtain ⟨M, s, h⟩ := h
 have hrow : ∀ (y : Nat -> Rat) i, i < m -> yo m (fun c => ((M i c : Int) : Rat) * y c) = (s i : Rat) * yo m (fun c => A i c * y c) := by
  intro y i hi
  rw [<- VF]
  apply zR
  intro c hc
  rw [<- ((h i hi).2.2 c (by omega)).1]; grind
 refine V9 m (X + 1) (fun i c => ((M i c : Int) : Rat)) x (by omega) (fun i hi c hc => ⟨M i c, rfl, by have := ((h i hi).2.2 c hc).2; omega⟩) (fun y hy => hO y fun i hi => ?_) (fun i hi => ?_)
 . have h1 := hy i hi
   rw [hrow y i hi] at h1; have := vM (h i hi).1
   rcases Rat.mul_eq_zero.1 h1 with h2 | h2
   . exact absurd h2 this
   . exact h2
 . rw [hrow x i hi, hS i hi]
   show _ = ((M i m : Int) : Rat)
   rw [<- ((h i hi).2.2 m (Nat.le_refl _)).1]; grind
variable (h : xh N np pf pt c fx wl asked)
include h
theorem xh.common {v : Nat -> Rat} (hh : vV N np pf pt c fx wl asked v) : Y5 N v (201 * (2 ^ yE (zo fx asked) N - 1) + 12 * N) := by
 have h1 := zj8 h.piped hh
 have hZ := h.elim.1.2.2.1
 obtain ⟨X, x1, x2⟩ := hZ
 obtain ⟨D, d1, d2, d3⟩ := zj0 x2 (zls pf pt c fx wl asked h.piped h.tied) h1
 have hX : X + 1 <= 10 ^ 200 := by
  rw [show 200 * 2 ^ 0 = 200 by rfl] at x1
  have : (2 : Nat) <= 10 ^ 200 := Nat.le_trans (by omega : 2 <= 10 ^ 1) (Nat.pow_le_pow_right (by omega) (by omega))
  omega
 have hG := Nat.le_trans (zce _ hX) (zp5 (yE (zo fx asked) N) 200 (by have := h.rank_le; omega))
 have hC : Y5 (yE (zo fx asked) N) (fun i => v ((x9 (zo fx asked) N).getD i 0)) (201 * (2 ^ yE (zo fx asked) N - 1)) :=
  ⟨D, d1, Nat.le_trans d2 hG, fun k hk => (d3 k hk).mono hG⟩
 obtain ⟨T, t1, t2, t3⟩ := zod (fx := fx) (asked := asked) hC h.fd
 exact ⟨T, t1, t2, fun k hk => by
  have := t3 k hk
  rw [za8 hh hk] at this
  exact this⟩
end
def zpe (N np : Nat) (c h : Nat -> Rat) (S : Int) (F : Nat) : Prop := S ≠ 0 /\ S.natAbs <= 10 ^ F /\ ∀ i, i < np -> ∀ x, x < N -> ∀ y, y < N -> xT S (10 ^ (F + 1)) (c i * (h x - h y))
theorem zr2 {N np E : Nat} {c h : Nat -> Rat} (hc : ∀ i, i < np -> Dz 12 (c i)) (hnp : np <= 9) (hC : Y5 N h E) : ∃ S, zpe N np c h S (E + 108) := by
 obtain ⟨T, t1, t2, t3⟩ := hC
 obtain ⟨p1, p2⟩ := Vn hc
 have hp : 10 ^ (12 * np) <= 10 ^ 108 := Nat.pow_le_pow_right (by omega) (by omega)
 refine ⟨(vK np (fun j => (c j).den) : Int) * T, Int.mul_ne_zero (by omega) t1, ?_, fun i hi x hx y hy => ?_⟩
 . rw [Int.natAbs_mul, Int.natAbs_natCast, Nat.add_comm, Nat.pow_add]
   exact Nat.mul_le_mul (Nat.le_trans p1 hp) t2
 . refine ((xT.prod hc hi).mul ((t3 x hx).sub (t3 y hy))).mono ?_
   rw [show E + 108 + 1 = 108 + (E + 1) by omega, Nat.pow_add, Nat.pow_succ]; exact Nat.mul_le_mul hp (by omega)
section
variable {N np F : Nat} {pf pt : Nat -> Nat} {c h : Nat -> Rat} {S : Int}
theorem zpe.short (t : zpe N np c h S F) (hF : F < 49990) {i x y : Nat} (hi : i < np) (hx : x < N) (hy : y < N) : zS 50000 (c i * (h x - h y)) := by
 obtain ⟨t1, t2, t3⟩ := t
 exact Dz.short (e := F + 1) ((t3 i hi x hx y hy).sz t1 (Nat.le_refl _) (Nat.le_trans t2 (Nat.pow_le_pow_right (by omega) (by omega)))) (by omega)
end
section
variable {N np : Nat} {pf pt : Nat -> Nat} {c : Nat -> Rat} {fx : Nat -> Option Rat} {wl : Nat -> Rat} {asked : Nat -> Bool}
theorem Y5.more {n E F : Nat} {h : Nat -> Rat} (hc : Y5 n h E) (hE : E <= F) : Y5 n h F := by
 obtain ⟨T, t1, t2, t3⟩ := hc
 have hp : 10 ^ E <= 10 ^ F := Nat.pow_le_pow_right (by omega) hE
 exact ⟨T, t1, Nat.le_trans t2 hp, fun k hk => (t3 k hk).mono hp⟩
theorem xh.commonE (h : xh N np pf pt c fx wl asked) {v : Nat -> Rat} (hh : vV N np pf pt c fx wl asked v) : Y5 N v 12735 := by
 refine (h.common hh).more ?_
 have h1 := h.rank_le
 have h2 := h.hN
 have h3 : 2 ^ yE (zo fx asked) N <= 2 ^ 6 := Nat.pow_le_pow_right (by omega) h1
 omega
theorem xh.terms (h : xh N np pf pt c fx wl asked) {v : Nat -> Rat} (hh : vV N np pf pt c fx wl asked v) : ∃ S, zpe N np c v S 12843 := zr2 h.cd h.hp (h.commonE hh)
theorem Y5.diff {n E : Nat} {h : Nat -> Rat} (hc : Y5 n h E) (hE : E < 49990) {x y : Nat} (hx : x < n) (hy : y < n) : zS 50000 (h x - h y) := by
 obtain ⟨T, h1, h2, h3⟩ := hc
 refine Dz.short (e := E + 1) (((h3 x hx).sub (h3 y hy)).sz h1 ?_ (Nat.le_trans h2 (Nat.pow_le_pow_right (by omega) (by omega)))) (by omega)
 rw [Nat.pow_succ]; omega
end
end Go.Proofs.YtdecgcdkaaiglaaGreat
