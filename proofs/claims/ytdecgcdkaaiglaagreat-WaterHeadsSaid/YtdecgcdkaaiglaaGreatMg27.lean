/- Parts of the proof: memory, numbers, walks of the functions that are called. -/
import Derived.Test.YtdecgcdkaaiglaaGreatMg26
set_option linter.unusedVariables false
set_option linter.unusedSimpArgs false
set_option maxRecDepth 100000
set_option maxHeartbeats 32000000
namespace Go.Proofs.YtdecgcdkaaiglaaGreat
open Go.RowKit Go.Deep
attribute [local go_sem ↓] Go.wp_at_zero Go.wp_at_succ
def Zm (l : List UInt8) : Prop := l.length <= 140737488355328
def X4 (w : World) (v : Value) (n : Net) : Prop :=
 ∃ A0 c0 A1 c1 A2 c2 A3 c3, v = .agg #[.slice A0 n.nodes.length c0, .slice A1 n.pipes.length c1, .slice A2 n.heads.length c2, .slice A3 n.wells.length c3] /\
  (n.nodes.length <= c0 /\ c0 <= maxLen /\ zD w w.heap.size 1 A0 n.nodes.length (n.nodes.map str) /\ ∀ x ∈ n.nodes, Zm x) /\
  (n.pipes.length <= c1 /\ c1 <= maxLen /\ zD w w.heap.size 5 A1 n.pipes.length (yz n.pipes) /\ ∀ x ∈ n.pipes, Zm x.name /\ Zm x.low /\ Zm x.high) /\
  (n.heads.length <= c2 /\ c2 <= maxLen /\ zD w w.heap.size 2 A2 n.heads.length (yp n.heads) /\ ∀ x ∈ n.heads, Zm x.value) /\
  (n.wells.length <= c3 /\ c3 <= maxLen /\ zD w w.heap.size 2 A3 n.wells.length (yp n.wells) /\ ∀ x ∈ n.wells, Zm x.value)
def zE {α : Type} (f : α -> Nat) (l : List α) : Nat := (l.map f).sum
theorem vr {α : Type} {f : α -> Nat} {l : List α} {k : Nat} (hk : k < l.length) : zE f (l.take (k + 1)) = zE f (l.take k) + f l[k] := by
 unfold zE
 rw [List.take_succ_eq_append_getElem hk, List.map_append, List.sum_append]
 simp
theorem vQ {α : Type} {f : α -> Nat} {l : List α} {B : Nat} (h : ∀ x ∈ l, f x <= B) : ∀ k, k <= l.length -> zE f (l.take k) <= k * B := by
 intro k
 induction k with
 | zero => intro _; simp [zE]
 | succ k ih =>
   intro hk; rw [vr (by omega), Nat.succ_mul]; have := ih (by omega); have := h _ (List.getElem_mem (show k < l.length by omega))
   omega
theorem YG {α : Type} {f : α -> Nat} {l : List α} {x : α} (h : x ∈ l) : f x <= zE f l := by
 induction l with
 | nil => cases h
 | cons a l ih =>
   unfold zE at ih |-; rw [List.map_cons, List.sum_cons]
   rcases List.mem_cons.1 h with rfl | h
   . omega
   . have := ih h; omega
def xm (p : zdp) : Nat := p.name.length + (p.low.length + p.high.length)
def zN (v : yI) : Nat := v.value.length
def zen (n : Net) : Nat := zE List.length n.nodes + zE xm n.pipes + zE zN n.heads + zE zN n.wells
def Vs (n : Net) : Bool :=
 decide ((6 < n.nodes.length /\ n.nodes.length <= 24) \/ 40 < n.nodes.length \/ (9 < n.pipes.length /\ n.pipes.length <= 48) \/ 60 < n.pipes.length \/ 30 < n.heads.length \/ 30 < n.wells.length \/ 1500 < zen n)
def zwj (N : Nat) (f : Nat -> Nat) (w : World) (nb : Array Value) (sv iv : Value) (wr : World) : Prop :=
 ∃ i : Nat, i <= N /\ iv = .int .i64 i /\ sv = .int .i64 (f i) /\ Hid (Blk wr w.heap.size 26 nb) /\ Hid (Below w.heap.size w wr)
theorem zrn {w : World} {A : Option Addr} {n B : Nat} {l : List zdp} (h4 : zD w B 5 A n (yz l)) {k : Nat} (hk : k < l.length) :
 ∃ ad, A = some ad /\ ad.block < B /\ w.cell? (ad.add (k * 5)) = some (str l[k].name) /\ w.cell? ⟨(ad.add (k * 5)).block, (ad.add (k * 5)).off + 1, none⟩ = some (.int .i64 l[k].from_) /\
  w.cell? ⟨(ad.add (k * 5)).block, (ad.add (k * 5)).off + 2, none⟩ = some (.int .i64 l[k].to_) /\ w.cell? ⟨(ad.add (k * 5)).block, (ad.add (k * 5)).off + 3, none⟩ = some (str l[k].low) /\
  w.cell? ⟨(ad.add (k * 5)).block, (ad.add (k * 5)).off + 4, none⟩ = some (str l[k].high) := by
 obtain ⟨g1, g2, g3, g4, g5⟩ := Vd hk
 have hn : 0 < n := by
  rcases Nat.eq_zero_or_pos n with h0 | h0
  . subst h0
    have := h4.1; rw [za7] at this
    omega
  . exact h0
 obtain ⟨ad, rfl, hb, hc⟩ := h4.2 hn
 rw [Nat.mul_comm] at g1 g2 g3 g4 g5
 exact ⟨ad, rfl, hb, hc _ _ g1, by rw [xX ad (k * 5) 0]; exact hc _ _ g2, by rw [xX ad (k * 5) 1]; exact hc _ _ g3, by rw [xX ad (k * 5) 2]; exact hc _ _ g4, by rw [xX ad (k * 5) 3]; exact hc _ _ g5⟩
theorem zdw {w : World} {A : Option Addr} {n B : Nat} {l : List yI} (h4 : zD w B 2 A n (yp l)) {k : Nat} (hk : k < l.length) :
 ∃ ad, A = some ad /\ ad.block < B /\ w.cell? (ad.add (k * 2)) = some (.int .i64 l[k].node) /\ w.cell? ⟨(ad.add (k * 2)).block, (ad.add (k * 2)).off + 1, none⟩ = some (str l[k].value) := by
 obtain ⟨g1, g2⟩ := XA hk
 have hn : 0 < n := by
  rcases Nat.eq_zero_or_pos n with h0 | h0
  . subst h0
    have := h4.1; rw [VV] at this
    omega
  . exact h0
 obtain ⟨ad, rfl, hb, hc⟩ := h4.2 hn
 rw [Nat.mul_comm] at g1 g2
 exact ⟨ad, rfl, hb, hc _ _ g1, by rw [xX ad (k * 2) 0]; exact hc _ _ g2⟩
theorem zq4 (v : Value) (n : Net) (w : World) (hn : X4 w v n) : Calls Tryz.prog 8 #[v] w (vB w (.bool (Vs n))) := by
 obtain ⟨A0, c0, A1, c1, A2, c2, A3, c3, rfl, ⟨a1, a2, a3, a4⟩, ⟨b1, b2, b3, b4⟩, ⟨d1, d2, d3, d4⟩, ⟨e1, e2, e3, e4⟩⟩ := hn
 have HW := ze (zg w (.cells #[.slice A0 n.nodes.length c0, .slice A1 n.pipes.length c1, .slice A2 n.heads.length c2, .slice A3 n.wells.length c3] 26))
 have HK := ze (Blk.new w 26 #[.slice A0 n.nodes.length c0, .slice A1 n.pipes.length c1, .slice A2 n.heads.length c2, .slice A3 n.wells.length c3])
 obtain ⟨r, HR⟩ : ∃ r, Hid (Vs n = r) := ⟨_, ze rfl⟩
 rw [HR.out]
 have HA := ze a3
 have HB := ze b3
 have HD := ze d3
 have HE := ze e3
 have HA4 := ze a4
 have HB4 := ze b4
 have HD4 := ze d4
 have HE4 := ze e4
 obtain ⟨k0, hk0⟩ : ∃ k, k = n.nodes.length := ⟨_, rfl⟩
 obtain ⟨k1, hk1⟩ : ∃ k, k = n.pipes.length := ⟨_, rfl⟩
 obtain ⟨k2, hk2⟩ : ∃ k, k = n.heads.length := ⟨_, rfl⟩
 obtain ⟨k3, hk3⟩ : ∃ k, k = n.wells.length := ⟨_, rfl⟩
 rw [<- hk0, <- hk1, <- hk2, <- hk3] at HW HK |-
 rw [<- hk0] at HA
 rw [<- hk1] at HB
 rw [<- hk2] at HD
 rw [<- hk3] at HE
 have HK0 := ze hk0
 have HK1 := ze hk1
 have HK2 := ze hk2
 have HK3 := ze hk3
 have HRD : Hid (decide ((6 < k0 /\ k0 <= 24) \/ 40 < k0 \/ (9 < k1 /\ k1 <= 48) \/ 60 < k1 \/ 30 < k2 \/ 30 < k3 \/ 1500 < zen n) = r) := ze (by rw [<- HR.out, hk0, hk1, hk2, hk3]; rfl)
 clear a1 a2 a3 a4 b1 b2 b3 b4 d1 d2 d3 d4 e1 e2 e3 e4 hk0 hk1 hk2 hk3 HR
 obtain ⟨r0, r1, r2, r3, rL⟩ := yG HK.out
 rcases (show (6 < k0 /\ k0 <= 24) \/ (6 < k0 /\ 24 < k0 /\ 40 < k0) \/ k0 <= 6 \/ (6 < k0 /\ 24 < k0 /\ k0 <= 40) by omega) with g | g | g | g
 . obtain ⟨g1, g2⟩ := g
   have g3 : (6 : Int) < (k0 : Int) := by omega
   have g4 : (k0 : Int) <= 24 := by omega
   (have HF : Hid (r = true) := ze (by rw [<- HRD.out, decide_eq_true_iff]; omega); clear HRD; go_enter Tryz.func8, Tryz.ntmps8; go_wp2_with fail; go_ret; exact ⟨zt HF.out, HW.out⟩)
 . obtain ⟨g1, g2, g2'⟩ := g
   have g3 : (6 : Int) < (k0 : Int) := by omega
   have g4 : ¬ (k0 : Int) <= 24 := by omega
   have g5 : (40 : Int) < (k0 : Int) := by omega
   (have HF : Hid (r = true) := ze (by rw [<- HRD.out, decide_eq_true_iff]; omega); clear HRD; go_enter Tryz.func8, Tryz.ntmps8; go_wp2_with fail; go_ret; exact ⟨zt HF.out, HW.out⟩)
 all_goals
  first | (have g3 : ¬ (6 : Int) < (k0 : Int) := (by omega)) | (have g3 : (6 : Int) < (k0 : Int) := (by omega); have g4 : ¬ (k0 : Int) <= 24 := (by omega))
  have g5 : ¬ (40 : Int) < (k0 : Int) := by omega
  have hN40 : k0 <= 40 := by omega
  rcases (show (9 < k1 /\ k1 <= 48) \/ (9 < k1 /\ 48 < k1 /\ 60 < k1) \/ k1 <= 9 \/ (9 < k1 /\ 48 < k1 /\ k1 <= 60) by omega) with q | q | q | q
  . obtain ⟨q1, q2⟩ := q
    have q3 : (9 : Int) < (k1 : Int) := by omega
    have q4 : (k1 : Int) <= 48 := by omega
    (have HF : Hid (r = true) := ze (by rw [<- HRD.out, decide_eq_true_iff]; omega); clear HRD; go_enter Tryz.func8, Tryz.ntmps8; go_wp2_with fail; go_ret; exact ⟨zt HF.out, HW.out⟩)
  . obtain ⟨q1, q2, q2'⟩ := q
    have q3 : (9 : Int) < (k1 : Int) := by omega
    have q4 : ¬ (k1 : Int) <= 48 := by omega
    have q5 : (60 : Int) < (k1 : Int) := by omega
    (have HF : Hid (r = true) := ze (by rw [<- HRD.out, decide_eq_true_iff]; omega); clear HRD; go_enter Tryz.func8, Tryz.ntmps8; go_wp2_with fail; go_ret; exact ⟨zt HF.out, HW.out⟩)
  all_goals
   first | (have q3 : ¬ (9 : Int) < (k1 : Int) := (by omega)) | (have q3 : (9 : Int) < (k1 : Int) := (by omega); have q4 : ¬ (k1 : Int) <= 48 := (by omega))
   have q5 : ¬ (60 : Int) < (k1 : Int) := by omega
   have hP60 : k1 <= 60 := by omega
   by_cases hh : 30 < k2
   . have u3 : (30 : Int) < (k2 : Int) := by omega
     (have HF : Hid (r = true) := ze (by rw [<- HRD.out, decide_eq_true_iff]; omega); clear HRD; go_enter Tryz.func8, Tryz.ntmps8; go_wp2_with fail; go_ret; exact ⟨zt HF.out, HW.out⟩)
   have u3 : ¬ (30 : Int) < (k2 : Int) := by omega
   by_cases hw : 30 < k3
   . have t3 : (30 : Int) < (k3 : Int) := by omega
     (have HF : Hid (r = true) := ze (by rw [<- HRD.out, decide_eq_true_iff]; omega); clear HRD; go_enter Tryz.func8, Tryz.ntmps8; go_wp2_with fail; go_ret; exact ⟨zt HF.out, HW.out⟩)
   have t3 : ¬ (30 : Int) < (k3 : Int) := by omega
   have HF : Hid (r = decide (1500 < zen n)) := ze (by
    rw [<- HRD.out]
    congr 1
    apply propext
    constructor
    . rintro (h | h | h | h | h | h | h)
      all_goals first | omega | exact h
    . intro h; omega)
   have hh30 : k2 <= 30 := by omega
   have hw30 : k3 <= 30 := by omega
   clear HRD g q hh hw
   go_enter Tryz.func8, Tryz.ntmps8
   go_wp2_with fail; clear r0 r1 r2 r3 rL g3 g5 q3 q5 u3 t3
   try clear g4
   try clear q4
   go_loopw [3, 4] (zwj k0 (fun i => zE List.length (n.nodes.take i)) w #[.slice A0 k0 c0, .slice A1 k1 c1, .slice A2 k2 c2, .slice A3 k3 c3]) (fun _ iv _ => k0 - (intOf iv).toNat)
   case atStart => exact ⟨0, Nat.zero_le _, rfl, rfl, HK, HW⟩
   case round =>
    clear HK HW; obtain ⟨i, hi, rfl, rfl, HK, HW⟩ := hrel; obtain ⟨r0, r1, r2, r3, rL⟩ := yG HK.out
    by_cases hlt : i < k0
    . have hin : i < n.nodes.length := by have := HK0.out; omega
      have hi1 : (i : Int) < (k0 : Int) := by omega
      obtain ⟨ad, ea, hb, qa⟩ : ∃ ad, A0 = some ad /\ ad.block < wr.heap.size /\ wr.cell? (ad.add i) = some (str n.nodes[i]) := by
       obtain ⟨ad, e, hb, hc⟩ := (HA.out.below HW.out).2 (by omega); exact ⟨ad, e, Nat.lt_of_lt_of_le hb HW.out.size, hc i _ (by simp [hin])⟩
      subst ea; have hl : n.nodes[i].length <= 140737488355328 := HA4.out _ (List.getElem_mem hin); have hs := vQ (B := 140737488355328) (f := List.length) HA4.out i (by omega); have hs2 : zE List.length (n.nodes.take i) <= 40 * 140737488355328 := Nat.le_trans hs (Nat.mul_le_mul (by omega) (Nat.le_refl _)); have HSU := ze (vr (f := List.length) hin); clear hs; generalize n.nodes[i] = x at qa hl HSU; go_wp2_with fail; refine ⟨⟨i + 1, by omega, by go_num, congrArg (Value.int .i64) (by show _ = ((zE List.length (n.nodes.take (i + 1)) : Nat) : Int); have h := HSU.out; omega), HK, HW⟩, by simp [intOf]; omega⟩
    . obtain rfl : i = k0 := by omega
      have HT : Hid (zE List.length (n.nodes.take i) = zE List.length n.nodes) := ze (by rw [HK0.out, List.take_length])
      have hS : zE List.length n.nodes <= 40 * 140737488355328 := by
       have h := vQ (B := 140737488355328) (f := List.length) HA4.out i (by have := HK0.out; omega); rw [HT.out] at h; exact Nat.le_trans h (Nat.mul_le_mul (by omega) (Nat.le_refl _))
      go_wp2_with fail; rw [HT.out]; clear r0 r1 r2 r3 rL HT
      go_loopw [3, 5] (zwj k1 (fun i => zE List.length n.nodes + zE xm (n.pipes.take i)) w #[.slice A0 i c0, .slice A1 k1 c1, .slice A2 k2 c2, .slice A3 k3 c3]) (fun _ iv _ => k1 - (intOf iv).toNat)
      case atStart => exact ⟨0, Nat.zero_le _, rfl, rfl, HK, HW⟩
      case round =>
       clear HK HW; obtain ⟨j, hj, rfl, rfl, HK, HW⟩ := hrel; obtain ⟨r0, r1, r2, r3, rL⟩ := yG HK.out
       by_cases hlt2 : j < k1
       . have hin : j < n.pipes.length := by have := HK1.out; omega
         have hj1 : (j : Int) < (k1 : Int) := by omega
         obtain ⟨ad, ea, hb, p0, p1, p2, p3, p4⟩ := zrn (HB.out.below HW.out) hin; subst ea; have hbw := Nat.lt_of_lt_of_le hb HW.out.size; obtain ⟨l0, l3, l4⟩ := HB4.out _ (List.getElem_mem hin); unfold Zm at l0 l3 l4
         have hple : ∀ x ∈ n.pipes, xm x <= 3 * 140737488355328 := by
          intro x hx; obtain ⟨l0, l3, l4⟩ := HB4.out x hx; unfold Zm at l0 l3 l4; unfold xm; omega
         have hs := vQ (B := 3 * 140737488355328) (f := xm) hple j (by omega); have hs2 : zE xm (n.pipes.take j) <= 60 * (3 * 140737488355328) := Nat.le_trans hs (Nat.mul_le_mul (by omega) (Nat.le_refl _)); have HSU : Hid (zE xm (n.pipes.take (j + 1)) = zE xm (n.pipes.take j) + (n.pipes[j].name.length + (n.pipes[j].low.length + n.pipes[j].high.length))) := ze (vr (f := xm) hin); clear hs hple p1 p2; generalize n.pipes[j].name = x0 at p0 l0 HSU; generalize n.pipes[j].low = x3 at p3 l3 HSU; generalize n.pipes[j].high = x4 at p4 l4 HSU; go_wp2_with fail
         go_quiet (fail)
         have hbB := zp wr nq
         try clear r0 r1 r2 r3 rL
         replace HK := kb_ HK hbB; replace HW := eb_ HW hbB; clear hbB; generalize wr.drewN nq = WN at HK HW |-; clear nq; obtain ⟨r0, r1, r2, r3, rL⟩ := yG HK.out; go_wp2_with fail; refine ⟨⟨j + 1, by omega, by go_num, congrArg (Value.int .i64) (by show _ = ((zE List.length n.nodes + zE xm (n.pipes.take (j + 1)) : Nat) : Int); have h := HSU.out; omega), HK, HW⟩, by simp [intOf]; omega⟩
       . obtain rfl : j = k1 := by omega
         have HT : Hid (zE xm (n.pipes.take j) = zE xm n.pipes) := ze (by rw [HK1.out, List.take_length])
         have hS2 : zE xm n.pipes <= 60 * (3 * 140737488355328) := by
          have hple : ∀ x ∈ n.pipes, xm x <= 3 * 140737488355328 := by
           intro x hx; obtain ⟨l0, l3, l4⟩ := HB4.out x hx; unfold Zm at l0 l3 l4; unfold xm; omega
          have h := vQ (B := 3 * 140737488355328) (f := xm) hple j (by have := HK1.out; omega); rw [HT.out] at h; exact Nat.le_trans h (Nat.mul_le_mul (by omega) (Nat.le_refl _))
         go_wp2_with fail; rw [HT.out]; clear r0 r1 r2 r3 rL HT
         go_loopw [3, 6] (zwj k2 (fun t => zE List.length n.nodes + zE xm n.pipes + zE zN (n.heads.take t)) w #[.slice A0 i c0, .slice A1 j c1, .slice A2 k2 c2, .slice A3 k3 c3]) (fun _ iv _ => k2 - (intOf iv).toNat)
         case atStart => exact ⟨0, Nat.zero_le _, rfl, rfl, HK, HW⟩
         case round =>
          clear HK HW; obtain ⟨t, ht, rfl, rfl, HK, HW⟩ := hrel; obtain ⟨r0, r1, r2, r3, rL⟩ := yG HK.out
          by_cases hlt3 : t < k2
          . have hin : t < n.heads.length := by have := HK2.out; omega
            have ht1 : (t : Int) < (k2 : Int) := by omega
            obtain ⟨ad, ea, hb, p0, p1⟩ := zdw (HD.out.below HW.out) hin; subst ea; have hbw := Nat.lt_of_lt_of_le hb HW.out.size; have l0 : n.heads[t].value.length <= 140737488355328 := HD4.out _ (List.getElem_mem hin); have hs := vQ (B := 140737488355328) (f := zN) HD4.out t (by omega); have hs2 : zE zN (n.heads.take t) <= 30 * 140737488355328 := Nat.le_trans hs (Nat.mul_le_mul (by omega) (Nat.le_refl _)); have HSU : Hid (zE zN (n.heads.take (t + 1)) = zE zN (n.heads.take t) + n.heads[t].value.length) := ze (vr (f := zN) hin); clear hs p0; generalize n.heads[t].value = x0 at p1 l0 HSU; go_wp2_with fail; refine ⟨⟨t + 1, by omega, by go_num, congrArg (Value.int .i64) (by show _ = ((zE List.length n.nodes + zE xm n.pipes + zE zN (n.heads.take (t + 1)) : Nat) : Int); have h := HSU.out; omega), HK, HW⟩, by simp [intOf]; omega⟩
          . obtain rfl : t = k2 := by omega
            have HT : Hid (zE zN (n.heads.take t) = zE zN n.heads) := ze (by rw [HK2.out, List.take_length])
            have hS3 : zE zN n.heads <= 30 * 140737488355328 := by
             have h := vQ (B := 140737488355328) (f := zN) HD4.out t (by have := HK2.out; omega); rw [HT.out] at h; exact Nat.le_trans h (Nat.mul_le_mul (by omega) (Nat.le_refl _))
            go_wp2_with fail; rw [HT.out]; clear r0 r1 r2 r3 rL HT
            go_loopw [3, 7] (zwj k3 (fun u => zE List.length n.nodes + zE xm n.pipes + zE zN n.heads + zE zN (n.wells.take u)) w #[.slice A0 i c0, .slice A1 j c1, .slice A2 t c2, .slice A3 k3 c3]) (fun _ iv _ => k3 - (intOf iv).toNat)
            case atStart => exact ⟨0, Nat.zero_le _, rfl, rfl, HK, HW⟩
            case round =>
             clear HK HW; obtain ⟨u, hu, rfl, rfl, HK, HW⟩ := hrel; obtain ⟨r0, r1, r2, r3, rL⟩ := yG HK.out
             by_cases hlt4 : u < k3
             . have hin : u < n.wells.length := by have := HK3.out; omega
               have hu1 : (u : Int) < (k3 : Int) := by omega
               obtain ⟨ad, ea, hb, p0, p1⟩ := zdw (HE.out.below HW.out) hin; subst ea; have hbw := Nat.lt_of_lt_of_le hb HW.out.size; have l0 : n.wells[u].value.length <= 140737488355328 := HE4.out _ (List.getElem_mem hin); have hs := vQ (B := 140737488355328) (f := zN) HE4.out u (by omega); have hs2 : zE zN (n.wells.take u) <= 30 * 140737488355328 := Nat.le_trans hs (Nat.mul_le_mul (by omega) (Nat.le_refl _)); have HSU : Hid (zE zN (n.wells.take (u + 1)) = zE zN (n.wells.take u) + n.wells[u].value.length) := ze (vr (f := zN) hin); clear hs p0; generalize n.wells[u].value = x0 at p1 l0 HSU; go_wp2_with fail; refine ⟨⟨u + 1, by omega, by go_num, congrArg (Value.int .i64) (by show _ = ((zE List.length n.nodes + zE xm n.pipes + zE zN n.heads + zE zN (n.wells.take (u + 1)) : Nat) : Int); have h := HSU.out; omega), HK, HW⟩, by simp [intOf]; omega⟩
             . obtain rfl : u = k3 := by omega
               have HT : Hid (zE zN (n.wells.take u) = zE zN n.wells) := ze (by rw [HK3.out, List.take_length]); go_wp2_with fail; go_ret; exact ⟨zt (HF.out.trans (decide_eq_decide.2 (by have h := HT.out; unfold zen; omega))), HW.out⟩
end Go.Proofs.YtdecgcdkaaiglaaGreat
namespace Go.Proofs.YtdecgcdkaaiglaaGreat
open Go.RowKit Go.Deep
theorem X4.below {w w' : World} {v : Value} {n : Net} (h : X4 w v n) (hb : Below w.heap.size w w') : X4 w' v n := by
 obtain ⟨A0, c0, A1, c1, A2, c2, A3, c3, rfl, ⟨a1, a2, a3, a4⟩, ⟨b1, b2, b3, b4⟩, ⟨d1, d2, d3, d4⟩, ⟨e1, e2, e3, e4⟩⟩ := h
 exact ⟨A0, c0, A1, c1, A2, c2, A3, c3, rfl, ⟨a1, a2, (a3.below hb).more hb.size, a4⟩, ⟨b1, b2, (b3.below hb).more hb.size, b4⟩, ⟨d1, d2, (d3.below hb).more hb.size, d4⟩, ⟨e1, e2, (e3.below hb).more hb.size, e4⟩⟩
theorem X4.small {w : World} {v : Value} {n : Net} (h : X4 w v n) (hg : Vs n = false) : Zq w v n := by
 unfold Vs at hg
 rw [decide_eq_false_iff_not] at hg
 obtain ⟨A0, c0, A1, c1, A2, c2, A3, c3, rfl, ⟨a1, a2, a3, a4⟩, ⟨b1, b2, b3, b4⟩, ⟨d1, d2, d3, d4⟩, ⟨e1, e2, e3, e4⟩⟩ := h
 have hl : zen n <= 1500 := by omega
 unfold zen at hl
 refine ⟨A0, _, c0, A1, _, c1, A2, _, c2, A3, _, c3, rfl, ⟨A0, c0, rfl, a1, a2, by omega, a3, fun x hx => ?_⟩, ⟨A1, c1, rfl, b1, b2, by omega, b3, fun x hx => ?_⟩, ⟨A2, c2, rfl, d1, d2, by omega, d3, fun x hx => ?_⟩, ⟨A3, c3, rfl, e1, e2, by omega, e3, fun x hx => ?_⟩⟩
 . have := YG (f := List.length) hx
   unfold zO; omega
 . have : x.name.length + (x.low.length + x.high.length) <= zE xm n.pipes := YG (f := xm) hx
   unfold zO; omega
 . have : x.value.length <= zE zN n.heads := YG (f := zN) hx
   unfold zO; omega
 . have : x.value.length <= zE zN n.wells := YG (f := zN) hx
   unfold zO; omega
end Go.Proofs.YtdecgcdkaaiglaaGreat
namespace Go.Proofs.YtdecgcdkaaiglaaGreat
open Go.RowKit Go.Deep
attribute [local go_sem ↓] Go.wp_at_zero Go.wp_at_succ
structure Ask where
 cond : List (List UInt8)
 heads : List (List UInt8)
 flows : List (List UInt8)
 node : Int
 pipe : Int
 a : Int
 b : Int
 first : List UInt8
 second : List UInt8
 wells : List Int
 limits : List yI
def Vj (w : World) (A : Option Addr) (c : Nat) (l : List (List UInt8)) : Prop := l.length <= c /\ c <= maxLen /\ zD w w.heap.size 1 A l.length (l.map str) /\ ∀ x ∈ l, Zm x
theorem Vj.below {w w' : World} {A : Option Addr} {c : Nat} {l : List (List UInt8)} (h : Vj w A c l) (hb : Below w.heap.size w w') : Vj w' A c l := ⟨h.1, h.2.1, (h.2.2.1.below hb).more hb.size, h.2.2.2⟩
def za6 (w : World) (v : Value) (x : Ask) : Prop :=
 ∃ A0 c0 A1 c1 A2 c2 A3 c3 A4 c4, v = .agg #[.slice A0 x.cond.length c0, .slice A1 x.heads.length c1, .slice A2 x.flows.length c2, .int .i64 x.node, .int .i64 x.pipe, .int .i64 x.a, .int .i64 x.b, str x.first, str x.second, .slice A3 x.wells.length c3, .slice A4 x.limits.length c4] /\
  Vj w A0 c0 x.cond /\ Vj w A1 c1 x.heads /\ Vj w A2 c2 x.flows /\ (Zm x.first /\ Zm x.second) /\
  (x.wells.length <= c3 /\ c3 <= maxLen /\ zD w w.heap.size 1 A3 x.wells.length (XM x.wells)) /\
  (x.limits.length <= c4 /\ c4 <= maxLen /\ zD w w.heap.size 2 A4 x.limits.length (yp x.limits) /\ ∀ v ∈ x.limits, Zm v.value)
theorem za6.below {w w' : World} {v : Value} {x : Ask} (h : za6 w v x) (hb : Below w.heap.size w w') : za6 w' v x := by
 obtain ⟨A0, c0, A1, c1, A2, c2, A3, c3, A4, c4, rfl, h0, h1, h2, h3, ⟨h4, h5, h6⟩, h7, h8, h9, h10⟩ := h
 exact ⟨A0, c0, A1, c1, A2, c2, A3, c3, A4, c4, rfl, h0.below hb, h1.below hb, h2.below hb, h3, ⟨h4, h5, (h6.below hb).more hb.size⟩, h7, h8, (h9.below hb).more hb.size, h10⟩
def ZD (l : List (List UInt8)) : Bool := decide (60 < l.length \/ 1500 < zE List.length (l.take 80))
theorem zij {l : List (List UInt8)} (h : ZD l = false) : l.length <= 60 /\ ∀ x ∈ l, x.length <= 1500 := by
 unfold ZD at h
 rw [decide_eq_false_iff_not] at h
 have h1 : l.length <= 60 := by omega
 refine ⟨h1, fun x hx => ?_⟩
 rw [List.take_of_length_le (by omega)] at h
 have := YG (f := List.length) hx
 omega
theorem Vj.small {w : World} {A : Option Addr} {c : Nat} {l : List (List UInt8)} (h : Vj w A c l) (hl : ZD l = false) : yJ w (.slice A l.length c) l := by
 obtain ⟨h1, h2⟩ := zij hl
 exact ⟨A, c, rfl, h.1, h.2.1, by omega, h.2.2.1, fun x hx => by have := h2 x hx; unfold zO; omega⟩
theorem zfk {w : World} {A : Option Addr} {l : List (List UInt8)} {B : Nat} (h : zD w B 1 A l.length (l.map str)) {i : Nat} (hi : i < l.length) : ∃ ad, A = some ad /\ ad.block < B /\ w.cell? (ad.add i) = some (str l[i]) := by
 obtain ⟨ad, e, hb, hc⟩ := h.2 (by omega)
 exact ⟨ad, e, hb, hc i _ (by simp [hi])⟩
theorem zf3 (A : Option Addr) (c : Nat) (l : List (List UInt8)) (w : World) (hl : Vj w A c l) : Calls Tryz.prog 30 #[.slice A l.length c] w (vB w (.bool (ZD l))) := by
 obtain ⟨h1, h2, h3, h4⟩ := hl
 have hmx : l.length <= maxLen := by omega
 unfold maxLen at hmx
 have HR3 := ze h3
 have H4 := ze h4
 have HW := ze (zF w)
 obtain ⟨r, HR⟩ : ∃ r, Hid (ZD l = r) := ⟨_, ze rfl⟩
 rw [HR.out]
 clear h1 h2 h3 h4
 go_enter Tryz.func30, Tryz.ntmps30
 go_wp2_with fail
 go_loop [3, 4] (fun nv iv => ∃ i : Nat, i <= l.length /\ i <= 80 /\ iv = .int .i64 i /\ nv = .int .i64 (zE List.length (l.take i) : Nat)) (fun _ iv => 80 - (intOf iv).toNat)
 case atStart => exact ⟨0, Nat.zero_le _, Nat.zero_le _, rfl, rfl⟩
 case round =>
  obtain ⟨i, hi, hi80, rfl, rfl⟩ := hrel
  have hs := vQ (B := 140737488355328) (f := List.length) H4.out i hi
  have hs2 : zE List.length (l.take i) <= 80 * 140737488355328 := Nat.le_trans hs (Nat.mul_le_mul hi80 (Nat.le_refl _))
  clear hs
  by_cases hlt : i < l.length
  . have hi1 : (i : Int) < (l.length : Int) := by omega
    by_cases h80 : i < 80
    . have hi2 : (i : Int) < 80 := by omega
      obtain ⟨ad, rfl, hb, hc⟩ := zfk HR3.out hlt; have hx : l[i].length <= 140737488355328 := H4.out _ (List.getElem_mem hlt); have HSU := ze (vr (f := List.length) hlt); generalize l[i] = x at hc hx HSU; go_wp2_with fail; go_round
      case rel => exact ⟨i + 1, by omega, by omega, by go_num, congrArg (Value.int .i64) (by have h := HSU.out; omega)⟩
      case measure => simp [intOf]; omega
    . have hi2 : ¬ (i : Int) < 80 := by omega
      have hl60 : (60 : Int) < (l.length : Int) := by omega
      have HF : Hid (r = true) := ze (by rw [<- HR.out]; unfold ZD; rw [decide_eq_true_iff]; omega); go_wp2_with fail; go_ret; exact ⟨zt HF.out, HW.out⟩
  . obtain rfl : i = l.length := by omega
    have hi1 : ¬ (l.length : Int) < (l.length : Int) := by omega
    have HE : Hid (zE List.length (l.take l.length) = zE List.length (l.take 80)) := ze (by rw [List.take_length, List.take_of_length_le hi80]); rw [List.take_length] at HE
    by_cases h60 : 60 < l.length
    . have hl60 : (60 : Int) < (l.length : Int) := by omega
      have HF : Hid (r = true) := ze (by rw [<- HR.out]; unfold ZD; rw [decide_eq_true_iff]; omega); go_wp2_with fail; go_ret; exact ⟨zt HF.out, HW.out⟩
    . have hl60 : ¬ (60 : Int) < (l.length : Int) := by omega
      have HF : Hid (r = decide (1500 < ((zE List.length l : Nat) : Int))) := ze (by
       rw [<- HR.out, HE.out]; unfold ZD
       congr 1
       apply propext
       omega)
      go_wp2_with fail; go_ret; exact ⟨zt HF.out, HW.out⟩
def zbc (l : List (List UInt8)) : Bool := decide (600 < zE List.length l)
theorem znb (A : Option Addr) (c : Nat) (l : List (List UInt8)) (w : World) (hl : Vj w A c l) (hs : l.length <= 1000) : Calls Tryz.prog 31 #[.slice A l.length c] w (vB w (.bool (zbc l))) := by
 obtain ⟨h1, h2, h3, h4⟩ := hl
 have HR3 := ze h3
 have H4 := ze h4
 have HW := ze (zF w)
 obtain ⟨r, HR⟩ : ∃ r, Hid (zbc l = r) := ⟨_, ze rfl⟩
 rw [HR.out]
 clear h1 h2 h3 h4
 go_enter Tryz.func31, Tryz.ntmps31
 go_wp2_with fail
 go_loop [3, 4] (fun nv iv => ∃ i : Nat, i <= l.length /\ iv = .int .i64 i /\ nv = .int .i64 (zE List.length (l.take i) : Nat)) (fun _ iv => l.length - (intOf iv).toNat)
 case atStart => exact ⟨0, Nat.zero_le _, rfl, rfl⟩
 case round =>
  obtain ⟨i, hi, rfl, rfl⟩ := hrel
  have hs2 := vQ (B := 140737488355328) (f := List.length) H4.out i hi
  have hs3 : zE List.length (l.take i) <= 1000 * 140737488355328 := Nat.le_trans hs2 (Nat.mul_le_mul (by omega) (Nat.le_refl _))
  clear hs2
  by_cases hlt : i < l.length
  . have hi1 : (i : Int) < (l.length : Int) := by omega
    obtain ⟨ad, rfl, hb, hc⟩ := zfk HR3.out hlt; have hx : l[i].length <= 140737488355328 := H4.out _ (List.getElem_mem hlt); have HSU := ze (vr (f := List.length) hlt); generalize l[i] = x at hc hx HSU; go_wp2_with fail; go_round
    case rel => exact ⟨i + 1, by omega, by go_num, congrArg (Value.int .i64) (by have h := HSU.out; omega)⟩
    case measure => simp [intOf]; omega
  . obtain rfl : i = l.length := by omega
    have hi1 : ¬ (l.length : Int) < (l.length : Int) := by omega
    have HF : Hid (r = decide (600 < ((zE List.length l : Nat) : Int))) := ze (by
     rw [<- HR.out]; unfold zbc
     congr 1
     apply propext
     omega)
    go_wp2_with fail; go_ret; exact ⟨zt HF.out, HW.out⟩
def ze9 (x : Ask) : Bool := ZD x.cond || ZD x.heads || ZD x.flows || zbc [x.first, x.second] || decide (40 < x.wells.length) || decide (40 < x.limits.length) || decide (1500 < zE zN x.limits)
theorem VZ (w : World) (t : TypeId) (a b : Value) : zD (w.alloc (.cells #[a, b] t)) (w.alloc (.cells #[a, b] t)).heap.size 1 (some ⟨w.heap.size, 0, none⟩) 2 [a, b] :=
 Y6 (size := 1) (n := 2) (Blk.new w t ([a, b] : List Value).toArray) rfl
def WidR (l : List yI) (w : World) (ab : Array Value) (nv iv : Value) (wr : World) : Prop :=
 ∃ i : Nat, i <= l.length /\ iv = .int .i64 i /\ nv = .int .i64 (zE zN (l.take i) : Nat) /\ Hid (Blk wr w.heap.size 31 ab) /\ Hid (Below w.heap.size w wr)
theorem zsp (v : Value) (x : Ask) (w : World) (hx : za6 w v x) : Calls Tryz.prog 9 #[v] w (vB w (.bool (ze9 x))) := by
 obtain ⟨A0, c0, A1, c1, A2, c2, A3, c3, A4, c4, rfl, h0, h1, h2, ⟨h3, h3b⟩, ⟨h4, h5, h6⟩, h7, h8, h9, h10⟩ := hx
 have H0 := ze (fun w' (hb : Below w.heap.size w w') => zf3 A0 c0 x.cond w' (h0.below hb))
 have H1 := ze (fun w' (hb : Below w.heap.size w w') => zf3 A1 c1 x.heads w' (h1.below hb))
 have H2 := ze (fun w' (hb : Below w.heap.size w w') => zf3 A2 c2 x.flows w' (h2.below hb))
 have H3 := ze (fun w' A (hr : zD w' w'.heap.size 1 A 2 [str x.first, str x.second]) => znb A 2 [x.first, x.second] w' ⟨Nat.le_refl _, by unfold maxLen; omega, hr, fun y hy => by simp at hy; rcases hy with rfl | rfl; exact h3; exact h3b⟩ (by simp))
 have H9 := ze h9
 have H10 := ze h10
 obtain ⟨r, HR⟩ : ∃ r, Hid (ze9 x = r) := ⟨_, ze rfl⟩
 rw [HR.out]
 unfold ze9 at HR
 obtain ⟨b0, e0⟩ : ∃ b, ZD x.cond = b := ⟨_, rfl⟩
 obtain ⟨b1, e1⟩ : ∃ b, ZD x.heads = b := ⟨_, rfl⟩
 obtain ⟨b2, e2⟩ : ∃ b, ZD x.flows = b := ⟨_, rfl⟩
 obtain ⟨b3, e3⟩ : ∃ b, zbc [x.first, x.second] = b := ⟨_, rfl⟩
 rw [e0] at H0
 rw [e1] at H1
 rw [e2] at H2
 rw [e3] at H3
 rw [e0, e1, e2, e3] at HR
 have hm4 := h8
 unfold maxLen at hm4
 clear h0 h1 h2 h3 h3b h4 h5 h6 h8 h9 h10 e0 e1 e2 e3
 obtain ⟨n0, k0⟩ : ∃ n, n = x.cond.length := ⟨_, rfl⟩
 obtain ⟨n1, k1⟩ : ∃ n, n = x.heads.length := ⟨_, rfl⟩
 obtain ⟨n2, k2⟩ : ∃ n, n = x.flows.length := ⟨_, rfl⟩
 obtain ⟨n9, k9⟩ : ∃ n, n = x.wells.length := ⟨_, rfl⟩
 obtain ⟨n10, k10⟩ : ∃ n, n = x.limits.length := ⟨_, rfl⟩
 rw [<- k0, <- k1, <- k2, <- k9, <- k10]
 rw [<- k0] at H0
 rw [<- k1] at H1
 rw [<- k2] at H2
 rw [<- k10] at h7 H9
 rw [<- k9, <- k10] at HR
 have HK10 := ze k10
 clear k0 k1 k2 k9 k10
 generalize x.node = z3
 generalize x.pipe = z4
 generalize x.a = z5
 generalize x.b = z6
 generalize x.first = s7 at H3 |-
 generalize x.second = s8 at H3 |-
 generalize x.limits = lim at HR H9 H10 HK10
 have HW := ze (zg w (.cells #[.slice A0 n0 c0, .slice A1 n1 c1, .slice A2 n2 c2, .int .i64 z3, .int .i64 z4, .int .i64 z5, .int .i64 z6, str s7, str s8, .slice A3 n9 c3, .slice A4 n10 c4] 31))
 have HK := ze (Blk.new w 31 #[.slice A0 n0 c0, .slice A1 n1 c1, .slice A2 n2 c2, .int .i64 z3, .int .i64 z4, .int .i64 z5, .int .i64 z6, str s7, str s8, .slice A3 n9 c3, .slice A4 n10 c4])
 have hways : b0 = true \/ (b0 = false /\ b1 = true) \/ (b0 = false /\ b1 = false /\ b2 = true) \/ (b0 = false /\ b1 = false /\ b2 = false /\ b3 = true) \/ (b0 = false /\ b1 = false /\ b2 = false /\ b3 = false /\ 40 < n9) \/ (b0 = false /\ b1 = false /\ b2 = false /\ b3 = false /\ ¬ 40 < n9 /\ 40 < n10) \/ (b0 = false /\ b1 = false /\ b2 = false /\ b3 = false /\ ¬ 40 < n9 /\ ¬ 40 < n10) := by
  cases b0 <;> cases b1 <;> cases b2 <;> cases b3 <;> simp <;> omega
 rcases hways with rfl | ⟨rfl, rfl⟩ | ⟨rfl, rfl, rfl⟩ | h
 . have HF : Hid (r = true) := ze (by rw [<- HR.out]; simp)
   clear HR; obtain ⟨r0, r1, r2, r3, r4, r5, r6, r7, r8, r9, r10, rL⟩ := xH HK.out
   go_enter Tryz.func9, Tryz.ntmps9
   go_wp2_with fail; refine (H0.out _ HW.out).mono ?_; rintro e WN ⟨rfl, hbB⟩
   try clear r0 r1 r2 r3 r4 r5 r6 r7 r8 r9 r10 rL
   replace HK := kb_ HK hbB; replace HW := eb_ HW hbB; clear hbB; obtain ⟨r0, r1, r2, r3, r4, r5, r6, r7, r8, r9, r10, rL⟩ := xH HK.out; go_wp2_with fail; go_ret; exact ⟨zt HF.out, HW.out⟩
 . have HF : Hid (r = true) := ze (by rw [<- HR.out]; simp)
   clear HR; obtain ⟨r0, r1, r2, r3, r4, r5, r6, r7, r8, r9, r10, rL⟩ := xH HK.out
   go_enter Tryz.func9, Tryz.ntmps9
   go_wp2_with fail; refine (H0.out _ HW.out).mono ?_; rintro e WN ⟨rfl, hbB⟩
   try clear r0 r1 r2 r3 r4 r5 r6 r7 r8 r9 r10 rL
   replace HK := kb_ HK hbB; replace HW := eb_ HW hbB; clear hbB; obtain ⟨r0, r1, r2, r3, r4, r5, r6, r7, r8, r9, r10, rL⟩ := xH HK.out; go_wp2_with fail; refine (H1.out _ HW.out).mono ?_; rintro e WN ⟨rfl, hbB⟩
   try clear r0 r1 r2 r3 r4 r5 r6 r7 r8 r9 r10 rL
   replace HK := kb_ HK hbB; replace HW := eb_ HW hbB; clear hbB; obtain ⟨r0, r1, r2, r3, r4, r5, r6, r7, r8, r9, r10, rL⟩ := xH HK.out; go_wp2_with fail; go_ret; exact ⟨zt HF.out, HW.out⟩
 . have HF : Hid (r = true) := ze (by rw [<- HR.out]; simp)
   clear HR; obtain ⟨r0, r1, r2, r3, r4, r5, r6, r7, r8, r9, r10, rL⟩ := xH HK.out
   go_enter Tryz.func9, Tryz.ntmps9
   go_wp2_with fail; refine (H0.out _ HW.out).mono ?_; rintro e WN ⟨rfl, hbB⟩
   try clear r0 r1 r2 r3 r4 r5 r6 r7 r8 r9 r10 rL
   replace HK := kb_ HK hbB; replace HW := eb_ HW hbB; clear hbB; obtain ⟨r0, r1, r2, r3, r4, r5, r6, r7, r8, r9, r10, rL⟩ := xH HK.out; go_wp2_with fail; refine (H1.out _ HW.out).mono ?_; rintro e WN ⟨rfl, hbB⟩
   try clear r0 r1 r2 r3 r4 r5 r6 r7 r8 r9 r10 rL
   replace HK := kb_ HK hbB; replace HW := eb_ HW hbB; clear hbB; obtain ⟨r0, r1, r2, r3, r4, r5, r6, r7, r8, r9, r10, rL⟩ := xH HK.out; go_wp2_with fail; refine (H2.out _ HW.out).mono ?_; rintro e WN ⟨rfl, hbB⟩
   try clear r0 r1 r2 r3 r4 r5 r6 r7 r8 r9 r10 rL
   replace HK := kb_ HK hbB; replace HW := eb_ HW hbB; clear hbB; obtain ⟨r0, r1, r2, r3, r4, r5, r6, r7, r8, r9, r10, rL⟩ := xH HK.out; go_wp2_with fail; go_ret; exact ⟨zt HF.out, HW.out⟩
 . obtain ⟨rfl, rfl, rfl⟩ : b0 = false /\ b1 = false /\ b2 = false := by rcases h with h | h | h | h <;> exact ⟨h.1, h.2.1, h.2.2.1⟩
   simp only [true_and] at h; have HH := ze h; clear h; obtain ⟨r0, r1, r2, r3, r4, r5, r6, r7, r8, r9, r10, rL⟩ := xH HK.out
   go_enter Tryz.func9, Tryz.ntmps9
   go_wp2_with fail; refine (H0.out _ HW.out).mono ?_; rintro e WN ⟨rfl, hbB⟩
   try clear r0 r1 r2 r3 r4 r5 r6 r7 r8 r9 r10 rL
   replace HK := kb_ HK hbB; replace HW := eb_ HW hbB; clear hbB; obtain ⟨r0, r1, r2, r3, r4, r5, r6, r7, r8, r9, r10, rL⟩ := xH HK.out; go_wp2_with fail; refine (H1.out _ HW.out).mono ?_; rintro e WN ⟨rfl, hbB⟩
   try clear r0 r1 r2 r3 r4 r5 r6 r7 r8 r9 r10 rL
   replace HK := kb_ HK hbB; replace HW := eb_ HW hbB; clear hbB; obtain ⟨r0, r1, r2, r3, r4, r5, r6, r7, r8, r9, r10, rL⟩ := xH HK.out; go_wp2_with fail; refine (H2.out _ HW.out).mono ?_; rintro e WN ⟨rfl, hbB⟩
   try clear r0 r1 r2 r3 r4 r5 r6 r7 r8 r9 r10 rL
   replace HK := kb_ HK hbB; replace HW := eb_ HW hbB; clear hbB; obtain ⟨r0, r1, r2, r3, r4, r5, r6, r7, r8, r9, r10, rL⟩ := xH HK.out; have h := HH.out; clear HH H0 H1 H2
   rcases h with rfl | ⟨rfl, g9⟩ | ⟨rfl, g9, g10⟩ | ⟨rfl, g9, g10⟩
   . have HF : Hid (r = true) := ze (by rw [<- HR.out]; simp)
     clear HR; go_wp2_with fail; have hx := zg WN (.cells #[str s7, str s8] 28); replace HK := kb_ HK hx; replace HW := eb_ HW hx; refine (H3.out _ _ (VZ _ _ _ _)).mono ?_; rintro e WM ⟨rfl, hbB⟩; replace HK := kb_ HK hbB; replace HW := eb_ HW hbB; clear hx hbB; go_wp2_with fail; go_ret; exact ⟨zt HF.out, HW.out⟩
   . have HF : Hid (r = true) := ze (by rw [<- HR.out]; simp [g9])
     have g9i : (40 : Int) < (n9 : Int) := by omega
     clear HR; go_wp2_with fail; have hx := zg WN (.cells #[str s7, str s8] 28); replace HK := kb_ HK hx; replace HW := eb_ HW hx; refine (H3.out _ _ (VZ _ _ _ _)).mono ?_; rintro e WM ⟨rfl, hbB⟩; clear r0 r1 r2 r3 r4 r5 r6 r7 r8 r9 r10 rL; replace HK := kb_ HK hbB; replace HW := eb_ HW hbB; obtain ⟨r0, r1, r2, r3, r4, r5, r6, r7, r8, r9, r10, rL⟩ := xH HK.out; clear hx hbB; go_wp2_with fail; go_ret; exact ⟨zt HF.out, HW.out⟩
   . have HF : Hid (r = true) := ze (by rw [<- HR.out]; simp [g9, g10])
     have g9i : ¬ (40 : Int) < (n9 : Int) := by omega
     have g10i : (40 : Int) < (n10 : Int) := by omega
     clear HR; go_wp2_with fail; have hx := zg WN (.cells #[str s7, str s8] 28); replace HK := kb_ HK hx; replace HW := eb_ HW hx; refine (H3.out _ _ (VZ _ _ _ _)).mono ?_; rintro e WM ⟨rfl, hbB⟩; clear r0 r1 r2 r3 r4 r5 r6 r7 r8 r9 r10 rL; replace HK := kb_ HK hbB; replace HW := eb_ HW hbB; obtain ⟨r0, r1, r2, r3, r4, r5, r6, r7, r8, r9, r10, rL⟩ := xH HK.out; clear hx hbB; go_wp2_with fail; go_ret; exact ⟨zt HF.out, HW.out⟩
   . have HF : Hid (r = decide (1500 < ((zE zN lim : Nat) : Int))) := ze (by
      rw [<- HR.out]; simp only [g9, g10, decide_false, Bool.or_false, Bool.false_or]
      congr 1
      apply propext
      omega)
     have g9i : ¬ (40 : Int) < (n9 : Int) := by omega
     have g10i : ¬ (40 : Int) < (n10 : Int) := by omega
     clear HR; go_wp2_with fail; have hx := zg WN (.cells #[str s7, str s8] 28); replace HK := kb_ HK hx; replace HW := eb_ HW hx; refine (H3.out _ _ (VZ _ _ _ _)).mono ?_; rintro e WM ⟨rfl, hbB⟩; clear r0 r1 r2 r3 r4 r5 r6 r7 r8 r9 r10 rL; replace HK := kb_ HK hbB; replace HW := eb_ HW hbB; obtain ⟨r0, r1, r2, r3, r4, r5, r6, r7, r8, r9, r10, rL⟩ := xH HK.out; clear hx hbB; go_wp2_with fail; clear r0 r1 r2 r3 r4 r5 r6 r7 r8 r9 r10 rL; clear g9i
     go_loopw [3, 4] (WidR lim w #[.slice A0 n0 c0, .slice A1 n1 c1, .slice A2 n2 c2, .int .i64 z3, .int .i64 z4, .int .i64 z5, .int .i64 z6, str s7, str s8, .slice A3 n9 c3, .slice A4 n10 c4]) (fun _ iv _ => n10 - (intOf iv).toNat)
     case atStart => exact ⟨0, Nat.zero_le _, rfl, rfl, HK, HW⟩
     case round =>
      clear HK HW; obtain ⟨i, hi, rfl, rfl, HK, HW⟩ := hrel; obtain ⟨r0, r1, r2, r3, r4, r5, r6, r7, r8, r9, r10, rL⟩ := xH HK.out; have hs := vQ (B := 140737488355328) (f := zN) H10.out i hi; have hs2 : zE zN (lim.take i) <= 40 * 140737488355328 := Nat.le_trans hs (Nat.mul_le_mul (by have := HK10.out; omega) (Nat.le_refl _)); clear hs
      by_cases hlt : i < n10
      . have hin : i < lim.length := by have := HK10.out; omega
        have hi1 : (i : Int) < (n10 : Int) := by omega
        obtain ⟨ad, ea, hb, q0, q1⟩ := zdw (H9.out.below HW.out) hin; subst ea; have hx : lim[i].value.length <= 140737488355328 := H10.out _ (List.getElem_mem hin); have HSU : Hid (zE zN (lim.take (i + 1)) = zE zN (lim.take i) + lim[i].value.length) := ze (vr (f := zN) hin); clear q0; generalize lim[i].value = y at q1 hx HSU; go_wp2_with fail; refine ⟨⟨i + 1, by have := HK10.out; omega, by go_num, congrArg (Value.int .i64) (by have h := HSU.out; omega), HK, HW⟩, by simp [intOf]; omega⟩
      . obtain rfl : i = n10 := by have := HK10.out; omega
        have HE : Hid (zE zN (lim.take i) = zE zN lim) := ze (by rw [HK10.out, List.take_length]); go_wp2_with fail; go_ret; exact ⟨zt (by rw [HE.out]; exact HF.out), HW.out⟩
theorem zkc (A B : Option Addr) (ca cb : Nat) (la lb : List (List UInt8)) (w : World) (hA : zD w w.heap.size 1 A la.length (la.map str)) (hB : zD w w.heap.size 1 B lb.length (lb.map str)) (h1 : la.length <= 1000) (h2 : lb.length <= 1000) :
 Calls Tryz.prog 53 #[.slice A la.length ca, .slice B lb.length cb] w (vB w (.bool (decide (la = lb)))) := by
 have HA := ze hA
 have HB := ze hB
 have HW := ze (zF w)
 obtain ⟨r, HR⟩ : ∃ r, Hid (decide (la = lb) = r) := ⟨_, ze rfl⟩
 rw [HR.out]
 clear hA hB
 by_cases hl : la.length = lb.length
 . have HL := ze hl
   have hI : ((la.length : Int) != (lb.length : Int)) = false := by rw [hl]; simp
   clear hl
   go_enter Tryz.func53, Tryz.ntmps53
   go_wp2_with fail
   go_loopw [13] (SamR la lb w) (fun iv _ => la.length - (intOf iv).toNat)
   case atStart => exact ⟨0, Nat.zero_le _, rfl, rfl, HW⟩
   case round =>
    clear HW; obtain ⟨i, hi, rfl, HE, HW⟩ := hrel
    by_cases hlt : i < la.length
    . have hlb : i < lb.length := by have := HL.out; omega
      have hi1 : (i : Int) < (la.length : Int) := by omega
      have hi2 : (i : Int) < (lb.length : Int) := by omega
      obtain ⟨aa, ea, la1, qa⟩ : ∃ ad, A = some ad /\ ad.block < wr.heap.size /\ wr.cell? (ad.add i) = some (str la[i]) := by
       obtain ⟨ad, e, hb, hc⟩ := (HA.out.below HW.out).2 (by omega); exact ⟨ad, e, Nat.lt_of_lt_of_le hb HW.out.size, hc i _ (by simp [hlt])⟩
      obtain ⟨ab, eb, lb1, qb⟩ : ∃ ad, B = some ad /\ ad.block < wr.heap.size /\ wr.cell? (ad.add i) = some (str lb[i]) := by
       obtain ⟨ad, e, hb, hc⟩ := (HB.out.below HW.out).2 (by omega); exact ⟨ad, e, Nat.lt_of_lt_of_le hb HW.out.size, hc i _ (by simp [hlb])⟩
      subst ea; subst eb
      by_cases he : la[i] = lb[i]
      . have HNX : Hid (la.take (i + 1) = lb.take (i + 1)) := ze (by rw [List.take_succ_eq_append_getElem hlt, List.take_succ_eq_append_getElem hlb, HE.out, he])
        rw [he] at qa; have hs1 : (lb[i] == lb[i]) = true := by simp
        have hs2 : (lb[i] != lb[i]) = false := by simp
        clear he la1 lb1; generalize lb[i] = x at qa qb hs1 hs2; go_wp2_with fail
        go_quiet (fail)
        have hbB := zp wr nq; replace HW := eb_ HW hbB; clear hbB; generalize wr.drewN nq = WN at HW |-; clear nq; go_wp2_with fail; go_round
        case rel => exact ⟨i + 1, by omega, by go_num, HNX, HW⟩
        case measure => simp [intOf]; omega
      . have HF : Hid (r = false) := ze (by
         rw [<- HR.out, decide_eq_false_iff_not]; intro e; subst e
         exact he rfl)
        have hs1 : (la[i] == lb[i]) = false := by simpa using he
        have hs2 : (la[i] != lb[i]) = true := by simpa using he
        clear he la1 lb1; generalize la[i] = x at qa hs1 hs2; generalize lb[i] = y at qb hs1 hs2; go_wp2_with fail
        go_quiet (fail)
        have hbB := zp wr nq; replace HW := eb_ HW hbB; clear hbB; generalize wr.drewN nq = WN at HW |-; clear nq; go_wp2_with fail; go_ret; exact ⟨zt HF.out, HW.out⟩
    . obtain rfl : i = la.length := by omega
      have HF : Hid (r = true) := ze (by
       rw [<- HR.out, decide_eq_true_iff]; have h := HE.out; rw [List.take_length, HL.out, List.take_length] at h
       exact h)
      go_wp2_with fail; go_ret; exact ⟨zt HF.out, HW.out⟩
 . have HF : Hid (r = false) := ze (by
    rw [<- HR.out, decide_eq_false_iff_not]; intro e
    exact hl (by rw [e]))
   have hI : ((la.length : Int) != (lb.length : Int)) = true := by rw [bne_iff_ne]; omega
   clear hl
   go_enter Tryz.func53, Tryz.ntmps53
   go_wp2_with fail; go_ret; exact ⟨zt HF.out, HW.out⟩
theorem zkq {w : World} {A : Option Addr} {m c : Nat} {l : List (List UInt8)} (h : yJ w (.slice A m c) l) {i : Nat} (hi : i < l.length) : ∃ ad, A = some ad /\ ad.block < w.heap.size /\ w.cell? (ad.add i) = some (str l[i]) := by
 obtain ⟨A', c', e, _, _, _, hr, _⟩ := h
 injection e with e1 e2 e3
 subst e1
 exact zfk hr hi
theorem zv5 {w : World} {A : Option Addr} {N B : Nat} {f : Nat -> Value} (h : zD w B 1 A N (row N f)) {i : Nat} (hi : i < N) : ∃ ad, A = some ad /\ ad.block < B /\ ∀ j, j < N -> w.cell? (ad.add j) = some (f j) := by
 obtain ⟨ad, e, hb, hc⟩ := h.2 (by omega)
 exact ⟨ad, e, hb, fun j hj => hc j _ (by simp [row, hj])⟩
theorem za9 {w : World} {base : Nat} {e : TypeId} {v : Value} {n : Nat} {xs : List Value} (h : w.ownsRow base e 1 v n xs) : ∃ A c, v = .slice A n c /\ n <= c /\ zD w w.heap.size 1 A n xs := by
 obtain ⟨A, c, rfl⟩ := XG h
 refine ⟨A, c, rfl, ?_, zD.of_own h⟩
 rcases h.2 with ⟨h0, h1⟩ | ⟨g, cap, cur, hv, _, _, hcap, _⟩
 . omega
 . injection hv with _ _ e3; omega
def Yb (n : Net) (cs : List (List UInt8)) (h : Nat -> Rat) (i : Nat) : Rat := yl cs i * (h (n.pf i) - h (n.pt i))
def FloR (n : Net) (cs : List (List UInt8)) (h : Nat -> Rat) (w : World) (ov iv : Value) (wr : World) : Prop :=
 ∃ i : Nat, i <= n.pipes.length /\ iv = .int .i64 i /\ Hid (wr.ownsRow w.heap.size 28 1 ov i ((List.range i).map fun i => str (zi (Yb n cs h i)))) /\ Hid (Below w.heap.size w wr)
def YQ (n : Net) (cs : List (List UInt8)) (w : World) (e : Ending) (w' : World) : Prop :=
 Below w.heap.size w w' /\ ((yL n cs ≠ 0 /\ e = .returned (.tuple #[.slice none 0 0, .int .i64 (yL n cs)])) \/
  (yL n cs = 0 /\ ∃ (A : Option Addr) (cap : Nat) (h : Nat -> Rat), e = .returned (.tuple #[.slice A n.pipes.length cap, .int .i64 0]) /\ n.pipes.length <= cap /\ vT n cs h /\
    zD w' w'.heap.size 1 A n.pipes.length (row n.pipes.length fun i => str (zi (Yb n cs h i)))))
def zi4 (n : Net) (cs : List (List UInt8)) (w : World) (e : Ending) (w' : World) : Prop :=
 Below w.heap.size w w' /\ ((yL n cs ≠ 0 /\ e = .returned (.tuple #[.slice none 0 0, .int .i64 (yL n cs)])) \/
  (yL n cs = 0 /\ ∃ (A : Option Addr) (cap : Nat) (h : Nat -> Rat) (B : Nat), e = .returned (.tuple #[.slice A n.pipes.length cap, .int .i64 0]) /\ vT n cs h /\ w.heap.size <= B /\
    w'.ownsRow B 28 1 (.slice A n.pipes.length cap) n.pipes.length ((List.range n.pipes.length).map fun i => str (zi (Yb n cs h i)))))
theorem zh3 (vn vc : Value) (n : Net) (cs : List (List UInt8)) (w : World) (hn : Zq w vn n) (hc : yJ w vc cs) (hsz : n.err = 0 -> n.nodes.length <= 6 /\ n.pipes.length <= 9) :
 Calls Tryz.prog 17 #[vn, vc] w (zi4 n cs w) := by
 have h1 := fun w' (h : Below w.heap.size w w') => YS vn vc n cs w' (hn.below h) (hc.below h) hsz
 have hc2 := hc
 obtain ⟨Ac, cc, rfl, _⟩ := hc2
 have HCN := ze hc
 unfold XS at h1
 unfold zi4
 obtain ⟨x, HX⟩ : ∃ x, Hid (yL n cs = x) := ⟨_, ze rfl⟩
 rw [HX.out] at h1 |-
 obtain ⟨A0, k0, c0, A1, k1, c1, A2, k2, c2, A3, k3, c3, rfl, hn0, hn1, hn2, hn3⟩ := hn
 have HN1 := ze hn1
 have hk1 : k1 = n.pipes.length := by obtain ⟨A', c', e, _⟩ := hn1; injection e
 have hk1000 : k1 <= 1000 := by obtain ⟨A', c', e, _, _, h6, _⟩ := hn1; omega
 have HK1 := ze hk1
 have HW := ze (zg w (.cells #[.slice A0 k0 c0, .slice A1 k1 c1, .slice A2 k2 c2, .slice A3 k3 c3] 26))
 have HK := ze (Blk.new w 26 #[.slice A0 k0 c0, .slice A1 k1 c1, .slice A2 k2 c2, .slice A3 k3 c3])
 have HSZ := ze hsz
 clear hn0 hn1 hn2 hn3 hc hk1 hsz
 obtain ⟨r0, r1, r2, r3, rL⟩ := yG HK.out
 go_enter Tryz.func17, Tryz.ntmps17
 go_wp2_with fail
 refine (h1 _ HW.out).mono ?_
 rintro e WN ⟨hbB, ⟨h0, rfl⟩ | ⟨h0, A9, cap9, h, rfl, hcap, hIs, hdz, hrd⟩⟩
 . have HNE := ze h0
   have hI : (x != 0) = true := by rw [bne_iff_ne]; exact h0
   clear h0 r0 r1 r2 r3 rL; replace HK := kb_ HK hbB; replace HW := eb_ HW hbB; clear hbB h1; go_wp2_with fail; go_ret2; exact ⟨HW.out, .inl ⟨HNE.out, rfl⟩⟩
 . subst h0
   have hz : n.err = 0 /\ yV n cs = 0 := by
    have h0 := HX.out; unfold yL at h0
    by_cases h3 : n.err = 0
    . rw [if_neg (by rw [h3]; decide)] at h0; exact ⟨h3, h0⟩
    . rw [if_pos h3] at h0; exact absurd h0 h3
   have HG := ze (XX hz.1 hz.2 (HSZ.out hz.1).1 (HSZ.out hz.1).2); have HEN := ze (Net.err_zero hz.1).1.1.1.ends; have HCG := ze (zf0 hz.2); have HIS := ze hIs; have HRD := ze hrd; clear r0 r1 r2 r3 rL hz hIs hdz hrd hcap; replace HK := kb_ HK hbB; replace HW := eb_ HW hbB; clear hbB h1 HSZ; obtain ⟨r0, r1, r2, r3, rL⟩ := yG HK.out; obtain ⟨S, HT⟩ : ∃ S, Hid (zpe n.nodes.length n.pipes.length (yl cs) h S 12843) := HG.out.terms HIS.out; have HCO := ze (HG.out.commonE HIS.out); have HPI := ze HG.out.piped; clear HG; generalize n.nodes.length = N at HRD HT HCO HPI |-; obtain ⟨i0, hi0, hz0, hz1, hz2⟩ := info_parts zf2; go_wp2_with fail; clear r0 r1 r2 r3 rL
   go_loopw [8, 23] (FloR n cs h WN) (fun _ iv _ => k1 - (intOf iv).toNat)
   case atStart => exact ⟨0, Nat.zero_le _, rfl, World.ownsRow_nil _ _ _ _, ze (zF WN)⟩
   case round =>
    obtain ⟨i, hi, rfl, HO, HWR⟩ := hrel
    by_cases hil : i < k1
    . have hin : i < n.pipes.length := by have := HK1.out; omega
      have hii : (i : Int) < (k1 : Int) := by omega
      obtain ⟨ad, e1, hb, p0, p1, p2, p3, p4⟩ := (HN1.out.below (ext HW.out HWR.out)).at_ hin; subst e1; have hic : i < cs.length := by have := HCG.out.1; omega
      obtain ⟨ac, e2, lc, qc⟩ := zkq (HCN.out.below (ext HW.out HWR.out)) hic; subst e2; have hci := HCG.out.2 i hic; rw [hci.1] at qc; have hcs : zS 50000 (yl cs i) := Dz.short (zS.sz hci.2.1) (show 12 < 50000 by omega); have hcc : vP (cs.getD i []) = yl cs i := rfl; rw [hcc] at qc; obtain ⟨q1, q2, q3, q4⟩ := HEN.out i hin; rw [q1] at p1; rw [q3] at p2; have hf0 : n.pf i < N := HPI.out.from_lt i hin; have ht0 : n.pt i < N := HPI.out.to_lt i hin; obtain ⟨a9, e3, l9, h9⟩ := zv5 (HRD.out.below HWR.out) hf0; subst e3; have u1 := h9 _ hf0; have u2 := h9 _ ht0; have l9' := Nat.lt_of_lt_of_le l9 HWR.out.size; have hx := zg wr (.cells #[str n.pipes[i].name, .int .i64 (n.pf i : Int), .int .i64 (n.pt i : Int), str n.pipes[i].low, str n.pipes[i].high] 47); have s1 : zS 50000 (h (n.pf i)) := Dz.short (HCO.out.get hf0) (by omega); have s2 : zS 50000 (h (n.pt i)) := Dz.short (HCO.out.get ht0) (by omega); have s3 : zS 50000 (h (n.pf i) - h (n.pt i)) := HCO.out.diff (by omega) hf0 ht0; have s4 : zS 50000 (yl cs i * (h (n.pf i) - h (n.pt i))) := HT.out.short (by omega) hin hf0 ht0; have hmi := fun w' => XL (zi (h (n.pf i))) (zi (h (n.pt i))) w' (yN s1) (yN s2)
      have htm := fun w' => za4 (zi (yl cs i)) (zi (h (n.pf i) - h (n.pt i))) w' (yN hcs) (yN s3)
      unfold XH at hmi; unfold Vi at htm; rw [Xe s1 s2 s3] at hmi; rw [Xe hcs s3 s4] at htm; have hfl : yl cs i * (h (n.pf i) - h (n.pt i)) = Yb n cs h i := rfl; rw [hfl] at htm; clear hci hcs hcc q1 q2 q3 q4 h9 s1 s2 s3 s4 hfl; have hff : (n.pf i : Int) < (N : Int) := by omega
      have htt : (n.pt i : Int) < (N : Int) := by omega
      have hll : (i : Int) < (cs.length : Int) := by omega
      go_wp2_with fail; have HP := ze (Blk.new wr 47 #[str n.pipes[i].name, .int .i64 (n.pf i : Int), .int .i64 (n.pt i : Int), str n.pipes[i].low, str n.pipes[i].high]); have u1 := (hx.cell (by rw [zy]; exact l9')).trans u1; have u2 := (hx.cell (by rw [zy]; exact l9')).trans u2; have qc := (hx.cell (by rw [zy]; exact lc)).trans qc; have l9 := Nat.lt_of_lt_of_le l9' hx.size; have lc := Nat.lt_of_lt_of_le lc hx.size; clear p0 p1 p2 p3 p4 hb l9'; replace HWR := eb_ HWR hx; replace HO := ze (xU HO.out hx); generalize wr.alloc (.cells #[str n.pipes[i].name, .int .i64 (n.pf i : Int), .int .i64 (n.pt i : Int), str n.pipes[i].low, str n.pipes[i].high] 47) = WP at HP HWR HO hx u1 u2 qc l9 lc |-; generalize wr.heap.size = q at HP |-; clear hx; have c1 := HP.out.cell 1; have c2 := HP.out.cell 2; have cL := HP.out.lt; simp only [List.getElem?_toArray, List.getElem?_cons_succ, List.getElem?_cons_zero] at c1 c2; clear HP; have c1g := z8 cL c1; have c2g := z8 cL c2; have qcg := Yc lc qc; have u1g := Yc l9 u1; have u2g := Yc l9 u2; refine vL 1 17 (by kernel_rfl) (by kernel_rfl) ?_ ?_
      . intro _ _ _ _ _ h9; exact h9
      simp only [List.take_succ_cons, List.take_zero, List.drop_succ_cons, List.drop_zero]; refine Z0 (fun K hK => ?_)
      go_simp
      refine hK _ ?_; clear hK K; refine zau ?_
      repeat (quiet_step (first | (go_at_call 40; exact yQ (hmi _)) | (go_at_call 39; exact yQ (htm _))))
      refine wpQuiet_nil ?_; rintro w9 ⟨t9, rfl⟩; clear c1g c2g qcg u1g u2g; have hbB := yy WP t9; replace HWR := eb_ HWR hbB; replace HO := ze (xU HO.out hbB); generalize grown WP t9 = WQ at hbB HWR HO |-; clear t9; clear c1 c2 cL qc lc u1 u2 l9 hbB hmi htm
      have h1c : ∀ u ∈ [str (zi (Yb n cs h i))], u.oneCell' = true := by
       intro u hu; rw [List.mem_singleton] at hu; subst hu; rfl
      have hrd := yX WQ 28 (str (zi (Yb n cs h i))); go_wp2_with (at_builtin; refine zB _ rfl (.tmp 28) (.tmp 45) _ rfl WN.heap.size 28 i0 _ 1 16 Tryz.underlying27 hi0 hz0 hz1 hz2 rfl (by omega) _ i _ rfl (HO.out.alloc _) _ (some ⟨WQ.heap.size, 0, none⟩) 1 1 _ rfl hrd h1c ?o2 ?o3 ?o4 ?_)
      case o2 => unfold maxLen; omega
      case o3 => omega
      case o4 => have := HWR.out.size; simp; omega
      intro v3 w3 hown3 hgr3 hat3; have hge := zg4 HO.out; have hx := zg WQ (.cells #[str (zi (Yb n cs h i))] 28); have hwx := ext HWR.out hx; have HW3 := ze (hwx.grown hgr3 hwx.size (fun k hk => by have := hge k hk; omega))
      have HO3 : Hid (w3.ownsRow WN.heap.size 28 1 v3 (i + 1) ((List.range (i + 1)).map fun i => str (zi (Yb n cs h i)))) := by
       rw [za3]; exact hown3
      clear hown3 hgr3 hat3 hge hx hrd h1c hwx; go_wp2_with fail; go_roundw
      case rel => exact ⟨i + 1, by omega, by go_num, HO3, HW3⟩
      case measure => simp [intOf]; omega
    . obtain rfl : i = k1 := by have := HK1.out; omega
      go_wp2_with fail; go_ret2; obtain ⟨A8, c8, hv8, _, _⟩ := za9 HO.out; have ho8 := HO.out; rw [hv8, HK1.out] at ho8; rw [hv8, HK1.out]; exact ⟨ext HW.out HWR.out, A8, c8, rfl, h, HIS.out, WN.heap.size, HW.out.size, ho8⟩
theorem zk3 (vn vc : Value) (n : Net) (cs : List (List UInt8)) (w : World) (hn : Zq w vn n) (hc : yJ w vc cs) (hsz : n.err = 0 -> n.nodes.length <= 6 /\ n.pipes.length <= 9) :
 Calls Tryz.prog 17 #[vn, vc] w (YQ n cs w) := by
 refine (zh3 vn vc n cs w hn hc hsz).mono ?_
 rintro e w' ⟨hb, ⟨h0, rfl⟩ | ⟨h0, A, cap, h, B, rfl, hh, hB, ho⟩⟩
 . exact ⟨hb, .inl ⟨h0, rfl⟩⟩
 . obtain ⟨A8, c8, hv8, hc8, hr8⟩ := za9 ho
   injection hv8 with e1 e2 e3
   subst e1; subst e3; exact ⟨hb, .inr ⟨h0, A, cap, h, rfl, hc8, hh, hr8⟩⟩
noncomputable def VC (n : Net) (cs gs : List (List UInt8)) : Int :=
 if yL n cs ≠ 0 then yL n cs else if gs.length ≠ n.nodes.length then 1 else if (∃ g ∈ gs, (zl g).isSome = false) then 4 else 0
def zaa (n : Net) (cs gs : List (List UInt8)) (w : World) (e : Ending) (w' : World) : Prop :=
 Below w.heap.size w w' /\ ((VC n cs gs ≠ 0 /\ e = .returned (.tuple #[.bool false, .int .i64 (VC n cs gs)])) \/
  (VC n cs gs = 0 /\ ∃ h, vT n cs h /\ e = .returned (.tuple #[.bool (decide ((List.range n.nodes.length).map (fun k => zi (h k)) = gs)), .int .i64 0])))
theorem zq7 (g : List UInt8) (w : World) (hs : zO g) : Calls Tryz.prog 51 #[str g] w (vB w (.bool (!(zl g).isSome))) := by
 have h := fun w => zct ⟨g.toArray⟩ w (yO hs)
 rw [yn] at h
 obtain ⟨b, hb⟩ : ∃ b, (zl g).isSome = b := ⟨_, rfl⟩
 rw [hb] at h |-
 clear hb hs
 go_enter Tryz.func51, Tryz.ntmps51
 go_wp2_with fail
 refine (h _).mono ?_
 rintro e w1 ⟨rfl, hb1⟩
 have HW := ze hb1
 clear hb1 h
 go_wp2_with fail
 go_ret
 exact ⟨rfl, HW.out⟩
theorem zh8 (gs : List (List UInt8)) : Xo gs.length (fun k => !(zl (gs.getD k [])).isSome) = decide (∃ g ∈ gs, (zl g).isSome = false) := by
 rw [Bool.eq_iff_iff, Zd, decide_eq_true_iff]
 constructor
 . rintro ⟨k, hk, h⟩
   refine ⟨gs[k], List.getElem_mem hk, ?_⟩
   simpa [List.getD, List.getElem?_eq_getElem hk] using h
 . rintro ⟨g, hg, h⟩
   obtain ⟨k, hk, rfl⟩ := List.mem_iff_getElem.1 hg; exact ⟨k, hk, by simpa [List.getD, List.getElem?_eq_getElem hk] using h⟩
theorem zhn (N : Nat) (h : Nat -> Rat) : (row N fun k => str (zi (h k))) = ((List.range N).map fun k => zi (h k)).map str := by
 unfold row; rw [List.map_map]; rfl
theorem Vb (vn vc vg : Value) (n : Net) (cs gs : List (List UInt8)) (w : World) (hn : Zq w vn n) (hc : yJ w vc cs) (hg : yJ w vg gs) (hsz : n.err = 0 -> n.nodes.length <= 6 /\ n.pipes.length <= 9) :
 Calls Tryz.prog 19 #[vn, vc, vg] w (zaa n cs gs w) := by
 have h1 := fun w' (h : Below w.heap.size w w') => YS vn vc n cs w' (hn.below h) (hc.below h) hsz
 have HGN := ze hg
 obtain ⟨Ag, cg, rfl, hg2, hg3, hg4, hg5, hg6⟩ := hg
 have HGR := ze hg5
 have h2 := fun w' (h : Below w.heap.size w w') => zpc Ag gs.length cg gs 51 (fun k => !(zl (gs.getD k [])).isSome) w' (HGN.out.below h) (zhh Tryz.func51 (by rfl) (by rfl)) (fun k hk w2 _ => by
  have := zq7 gs[k] w2 (hg6 _ (List.getElem_mem hk))
  simpa [List.getD, List.getElem?_eq_getElem hk] using this)
 rw [zh8] at h2
 unfold XS at h1
 unfold zaa
 obtain ⟨y, HY⟩ : ∃ y, Hid (VC n cs gs = y) := ⟨_, ze rfl⟩
 rw [HY.out]
 unfold VC at HY
 obtain ⟨x, HX⟩ : ∃ x, Hid (yL n cs = x) := ⟨_, ze rfl⟩
 rw [HX.out] at h1 HY
 obtain ⟨A0, k0, c0, A1, k1, c1, A2, k2, c2, A3, k3, c3, rfl, hn0, hn1, hn2, hn3⟩ := hn
 have hk0 : k0 = n.nodes.length := by obtain ⟨A', c', e, _⟩ := hn0; injection e
 have hk1000 : k0 <= 1000 := by obtain ⟨A', c', e, _, _, h6, _⟩ := hn0; omega
 have HK0 := ze hk0
 have HW := ze (zg w (.cells #[.slice A0 k0 c0, .slice A1 k1 c1, .slice A2 k2 c2, .slice A3 k3 c3] 26))
 have HK := ze (Blk.new w 26 #[.slice A0 k0 c0, .slice A1 k1 c1, .slice A2 k2 c2, .slice A3 k3 c3])
 have HG1000 := ze hg4
 rw [<- hk0] at h1 HY |-
 clear hn0 hn1 hn2 hn3 hc hk0 hsz hg2 hg3 hg4 hg5 hg6
 obtain ⟨r0, r1, r2, r3, rL⟩ := yG HK.out
 go_enter Tryz.func19, Tryz.ntmps19
 go_wp2_with fail
 refine (h1 _ HW.out).mono ?_
 rintro e WN ⟨hbB, ⟨h0, rfl⟩ | ⟨h0, A9, cap9, h, rfl, hcap, hIs, hdz, hrd⟩⟩
 . have hI : (x != 0) = true := by rw [bne_iff_ne]; exact h0
   have hyx : Hid (y = x) := ze (by rw [<- HY.out, if_pos h0]); have HNE := ze h0; clear h0 r0 r1 r2 r3 rL HY; replace HK := kb_ HK hbB; replace HW := eb_ HW hbB; clear hbB h1 h2; go_wp2_with fail; go_ret2; rw [hyx.out]; exact ⟨HW.out, .inl ⟨HNE.out, rfl⟩⟩
 . subst h0
   have HIS := ze hIs; have HRD := ze hrd; clear r0 r1 r2 r3 rL hIs hdz hrd hcap; replace HK := kb_ HK hbB; replace HW := eb_ HW hbB; clear hbB h1; obtain ⟨r0, r1, r2, r3, rL⟩ := yG HK.out
   by_cases hl : gs.length = k0
   . have hI : ((gs.length : Int) != (k0 : Int)) = false := by rw [hl]; simp
     have HL := ze hl; obtain ⟨b, HB⟩ : ∃ b, Hid (decide (∃ g ∈ gs, (zl g).isSome = false) = b) := ⟨_, ze rfl⟩; rw [HB.out] at h2; have HY2 : Hid ((if (∃ g ∈ gs, (zl g).isSome = false) then 4 else 0) = y) := ze (by have := HY.out; rw [if_neg (show ¬ (0 : Int) ≠ 0 by simp), if_neg (show ¬ gs.length ≠ k0 by simpa using hl)] at this; exact this); clear hl HY
     cases b with
     | true =>
       have hyx : Hid (y = 4) := ze (by rw [<- HY2.out, if_pos (of_decide_eq_true HB.out)]); go_wp2_with fail; refine (h2 _ HW.out).mono ?_; rintro e WN ⟨rfl, hbB⟩
       try clear r0 r1 r2 r3 rL
       replace HK := kb_ HK hbB; replace HW := eb_ HW hbB; clear hbB; obtain ⟨r0, r1, r2, r3, rL⟩ := yG HK.out; go_wp2_with fail; go_ret2; rw [hyx.out]; exact ⟨HW.out, .inl ⟨by decide, rfl⟩⟩
     | false =>
       have hyx : Hid (y = 0) := ze (by rw [<- HY2.out, if_neg (of_decide_eq_false HB.out)]); rw [zhn] at HRD; have hlen : ((List.range k0).map fun k => zi (h k)).length = k0 := by simp
       have heq := fun w' (hb : Below WN.heap.size WN w') => zkc A9 Ag cap9 cg ((List.range k0).map fun k => zi (h k)) gs w' (by rw [hlen]; exact (HRD.out.below hb).more hb.size) ((HGR.out.below (ext HW.out hb)).more (ext HW.out hb).size) (by rw [hlen]; exact hk1000) HG1000.out
       rw [hlen] at heq; clear hlen; have HNN := ze (zF WN); go_wp2_with fail; refine (h2 _ HW.out).mono ?_; rintro e WN ⟨rfl, hbB⟩
       try clear r0 r1 r2 r3 rL
       replace HK := kb_ HK hbB; replace HW := eb_ HW hbB; replace HNN := eb_ HNN hbB; clear hbB; obtain ⟨r0, r1, r2, r3, rL⟩ := yG HK.out; clear h2; go_wp2_with fail; refine (heq _ HNN.out).mono ?_; rintro e WN ⟨rfl, hbB⟩
       try clear r0 r1 r2 r3 rL
       replace HK := kb_ HK hbB; replace HW := eb_ HW hbB; replace HNN := eb_ HNN hbB; clear hbB; obtain ⟨r0, r1, r2, r3, rL⟩ := yG HK.out; clear heq; go_wp2_with fail; go_ret2; rw [hyx.out]; exact ⟨HW.out, .inr ⟨rfl, h, HIS.out, rfl⟩⟩
   . have hI : ((gs.length : Int) != (k0 : Int)) = true := by rw [bne_iff_ne]; omega
     have hyx : Hid (y = 1) := ze (by have := HY.out; rw [if_neg (show ¬ (0 : Int) ≠ 0 by simp), if_pos hl] at this; exact this.symm); clear hl HY h2; go_wp2_with fail; go_ret2; rw [hyx.out]; exact ⟨HW.out, .inl ⟨by decide, rfl⟩⟩
end Go.Proofs.YtdecgcdkaaiglaaGreat
namespace Go.Proofs.YtdecgcdkaaiglaaGreat
open Go.RowKit Go.Deep
theorem vT.same {n : Net} {cs : List (List UInt8)} {g h : Nat -> Rat} (hG : xh n.nodes.length n.pipes.length n.pf n.pt (yl cs) (Net.at_ n.heads) (fun k => (Net.at_ n.wells k).getD 0) (zfq n.nodes.length))
 (hg : vT n cs g) (hh : vT n cs h) : ∀ k, k < n.nodes.length -> g k = h k := vV.unique hG.piped hG.tied hg hh
theorem zps {n : Net} (hg : Vs n = false) (h : n.err = 0) : n.nodes.length <= 6 /\ n.pipes.length <= 9 := by
 unfold Vs at hg
 rw [decide_eq_false_iff_not] at hg
 obtain ⟨h5, _⟩ := Net.err_zero h
 have h1 := h5.1.1.1.1
 have h3 := h5.1.1.2.1
 unfold Net.P1 at h1
 omega
theorem zrj {x : Ask} (h : ze9 x = false) : ZD x.cond = false /\ ZD x.heads = false /\ ZD x.flows = false /\ zbc [x.first, x.second] = false := by
 unfold ze9 at h
 simp only [Bool.or_eq_false_iff] at h
 exact ⟨h.1.1.1.1.1.1, h.1.1.1.1.1.2, h.1.1.1.1.2, h.1.1.1.2⟩
end Go.Proofs.YtdecgcdkaaiglaaGreat
namespace Go.Proofs.YtdecgcdkaaiglaaGreat
def zm0 : Nat := 60000
theorem zgv : zm0 = 60000 := rfl
def zvi : Nat := 937
theorem zq8 : zvi = 937 := rfl
theorem YR {e M : Nat} {q : Rat} (h : Dz e q) (he : e < 9 * M) : Xq M q := by
 have h1 : 10 ^ e < 1000000000 ^ M := by
  rw [show 1000000000 = 10 ^ 9 from rfl, <- Nat.pow_mul]
  exact Nat.pow_lt_pow_right (by omega) he
 exact ⟨zW (by omega) (Nat.lt_of_le_of_lt h.1 h1), zW (by omega) (Nat.lt_of_le_of_lt h.2 h1)⟩
section
variable {m E k : Nat} {A0 A : Tab}
theorem X2.nl (h : X2 m A0 E k A) (hk : k <= m) (hE : E * 2 ^ m <= 60000) {i c : Nat} (hi : i < m) (hc : c <= m) : Xq 8388608 (A i c) :=
 YR (h.1.2.2.1.sz hi hc) (by have := zfd hk hE; omega)
theorem X2.qnl (h : X2 m A0 E k A) (hk : k < m) (hE : E * 2 ^ m <= 60000) {i c : Nat} (hi : i < m) (hc : c <= m) (h0 : A k k ≠ 0) : Xq 8388608 (A i c / A k k) := by
 have h1 := h.1.2.2.1.quot hi hk hc h0
 rw [zfr] at h1
 exact YR h1 (by have := zfd (show k + 1 <= m by omega) hE; omega)
theorem X2.pnl (h : X2 m A0 E k A) (hk : k < m) (hE : E * 2 ^ m <= 60000) {i c : Nat} (hi : i < m) (hc : c <= m) (h0 : A k k ≠ 0) : Xq 8388608 (A i k / A k k * A k c) := by
 have h1 := h.1.2.2.1.prod hi hk hc h0
 rw [zfr] at h1
 exact YR h1 (by have := zfd (show k + 1 <= m by omega) hE; omega)
theorem X2.adz (h : X2 m A0 E m A) (hE : E * 2 ^ m <= 60000) {i : Nat} (hi : i < m) : Dz zm0 (A i m / A i i) := by
 obtain ⟨t, h1, h2, h3⟩ := h.1.2.2.1.diag hi (h.1.2.1 i hi).1
 exact (h3.sz h1 (Nat.le_refl _) h2).mono (Nat.pow_le_pow_right (by omega) (by rw [zgv]; exact hE))
end
section
variable {N np : Nat} {pf pt : Nat -> Nat} {c : Nat -> Rat} {fx : Nat -> Option Rat} {wl : Nat -> Rat} {asked : Nat -> Bool}
def zql (pf pt : Nat -> Nat) (c : Nat -> Rat) (fx : Nat -> Option Rat) (wl : Nat -> Rat) (asked : Nat -> Bool) (N np : Nat) : Tab := fun i j => if i < N /\ j <= N then Va pf pt c fx wl asked N np i j else 0
theorem zcr {i j : Nat} (hi : i < N) (hj : j <= N) : zql pf pt c fx wl asked N np i j = Va pf pt c fx wl asked N np i j := by unfold zql; rw [if_pos ⟨hi, hj⟩]
theorem zlt {i : Nat} (hi : i < N) (x : Nat -> Rat) : yo N (fun j => zql pf pt c fx wl asked N np i j * x j) = yo N (fun j => Va pf pt c fx wl asked N np i j * x j) :=
 zR fun j hj => by rw [zcr hi (Nat.le_of_lt hj)]
theorem zjm {x : Nat -> Rat} (h : xR N (zql pf pt c fx wl asked N np) x) : xR N (Va pf pt c fx wl asked N np) x := by
 intro i hi
 have := h i hi
 rw [zlt hi, zcr hi (Nat.le_refl _)] at this
 exact this
theorem zqc (h : xh N np pf pt c fx wl asked) : zgz N (zql pf pt c fx wl asked N np) := by
 intro x hx
 exact zs7 pf pt c fx wl asked h.piped h.tied x fun i hi => by rw [<- zlt hi]; exact hx i hi
theorem zg6 (h : xh N np pf pt c fx wl asked) {i j : Nat} (hi : i < N) : Dz 117 (Va pf pt c fx wl asked N np i j) := by
 unfold Va
 have hp := h.hp
 split
 . split
   . exact Dz.more (Sz.neg (h.wd i hi)) (by omega)
   . exact (zfs pf pt c h.piped h.cd i np (Nat.le_refl _) j).more (by omega)
 . split
   . exact (h.fd i hi).more (by omega)
   . split
     . exact Dz.one _
     . exact Dz.zero _
theorem xh.relim (h : xh N np pf pt c fx wl asked) : X2 N (zql pf pt c fx wl asked N np) zvi 0 (zql pf pt c fx wl asked N np) := by
 refine ⟨Vp.start (zqc h) ?_, fun i j hj => by unfold zql; rw [if_neg (by omega)]⟩
 have h1 := h.hN
 obtain ⟨X, h2, h3⟩ := zsd (m := N) (e := 117) (f := 117) (A := zql pf pt c fx wl asked N np) (fun i hi j hj => by rw [zcr hi (Nat.le_of_lt hj)]; exact zg6 h hi) (fun i hi => by rw [zcr hi (Nat.le_refl _)]; exact zg6 h hi) (Nat.le_refl _)
 refine ⟨X, Nat.le_trans h2 (Nat.pow_le_pow_right (by omega) ?_), h3⟩
 simp only [Nat.pow_zero, Nat.mul_one]
 rw [zq8]
 omega
theorem xh.rfits (h : xh N np pf pt c fx wl asked) : zvi * 2 ^ N <= 60000 := by
 have h2 : 2 ^ N <= 2 ^ 6 := Nat.pow_le_pow_right (by omega) h.hN
 rw [zq8]
 omega
theorem xh.rdone (h : xh N np pf pt c fx wl asked) {A : Tab} (hA : X2 N (zql pf pt c fx wl asked N np) zvi N A) : vV N np pf pt c fx wl asked (fun k => A k N / A k k) :=
 zo6 pf pt c fx wl asked h.piped (zjm hA.1.done)
def Yy (pf pt : Nat -> Nat) (c : Nat -> Rat) (i n : Nat) : Nat -> Rat := fun j => if j = i then zV pf pt c i n i + c n else zV pf pt c i n j
theorem zoc {i n : Nat} (hn : n < np) (hp : Xk N np pf pt c) (h : pf n = i) (j : Nat) : zV pf pt c i (n + 1) j = if j = pt n then Yy pf pt c i n (pt n) - c n else Yy pf pt c i n j := by
 have hne := hp.ne n hn
 have e : Yy pf pt c i n (pt n) = zV pf pt c i n (pt n) := by unfold Yy; rw [if_neg (by omega)]
 rw [e]
 show (if pf n = i then (if j = pt n then zV pf pt c i n (pt n) - c n else if j = i then zV pf pt c i n i + c n else zV pf pt c i n j)
  else if pt n = i then (if j = pf n then zV pf pt c i n (pf n) - c n else if j = i then zV pf pt c i n i + c n else zV pf pt c i n j) else zV pf pt c i n j) = _
 rw [if_pos h]
 rfl
theorem zs3 {i n : Nat} (hn : n < np) (hp : Xk N np pf pt c) (h0 : pf n ≠ i) (h : pt n = i) (j : Nat) : zV pf pt c i (n + 1) j = if j = pf n then Yy pf pt c i n (pf n) - c n else Yy pf pt c i n j := by
 have hne := hp.ne n hn
 have e : Yy pf pt c i n (pf n) = zV pf pt c i n (pf n) := by unfold Yy; rw [if_neg (by omega)]
 rw [e]
 show (if pf n = i then (if j = pt n then zV pf pt c i n (pt n) - c n else if j = i then zV pf pt c i n i + c n else zV pf pt c i n j)
  else if pt n = i then (if j = pf n then zV pf pt c i n (pf n) - c n else if j = i then zV pf pt c i n i + c n else zV pf pt c i n j) else zV pf pt c i n j) = _
 rw [if_neg h0, if_pos h]
 rfl
theorem zp3 {i n : Nat} (h0 : pf n ≠ i) (h : pt n ≠ i) : zV pf pt c i (n + 1) = zV pf pt c i n := by
 funext j
 show (if pf n = i then (if j = pt n then zV pf pt c i n (pt n) - c n else if j = i then zV pf pt c i n i + c n else zV pf pt c i n j)
  else if pt n = i then (if j = pf n then zV pf pt c i n (pf n) - c n else if j = i then zV pf pt c i n i + c n else zV pf pt c i n j) else zV pf pt c i n j) = _
 rw [if_neg h0, if_neg h]
theorem xh.row_nl (h : xh N np pf pt c fx wl asked) {i n : Nat} (hn : n <= np) (j : Nat) : Xq 8388608 (zV pf pt c i n j) :=
 YR (zfs pf pt c h.piped h.cd i n hn j) (by have := h.hp; omega)
theorem xh.mid_nl (h : xh N np pf pt c fx wl asked) {i n : Nat} (hn : n < np) (j : Nat) : Xq 8388608 (Yy pf pt c i n j) := by
 unfold Yy
 split
 . exact YR (Dz.add (g := 130) (zfs pf pt c h.piped h.cd i n (Nat.le_of_lt hn) _) (h.cd n hn) (by have := h.hp; omega)) (by omega)
 . exact h.row_nl (Nat.le_of_lt hn) _
theorem xh.c_nl (h : xh N np pf pt c fx wl asked) {n : Nat} (hn : n < np) : Xq 8388608 (c n) := YR (h.cd n hn) (by omega)
end
end Go.Proofs.YtdecgcdkaaiglaaGreat
