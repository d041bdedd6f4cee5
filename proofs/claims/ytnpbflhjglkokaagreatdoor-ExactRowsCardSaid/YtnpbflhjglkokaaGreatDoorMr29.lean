/- Parts of the proof: memory, numbers, walks of the functions that are called. -/
import Derived.Deep.CutRange
import Derived.Test.YtnpbflhjglkokaaGreatDoorMr24
set_option linter.unusedVariables false
set_option linter.unusedSimpArgs false
set_option maxRecDepth 100000
set_option maxHeartbeats 32000000
namespace Go.Proofs.YtnpbflhjglkokaaGreatDoor
open Go.RowKit Go.Deep
attribute [local go_sem ↓] Go.wp_at_zero Go.wp_at_succ
theorem Fit.le2 {z:Int} (h:Fit z) {M:Nat} (hM:8388608<=M):len 4294967296 z.natAbs<=M:=Nat.le_trans h hM
theorem Fit.neg {z:Int} (h:Fit z):Fit (-z):=by unfold Fit;rw [Int.natAbs_neg];exact h
theorem Yo {a b:Int} (ha:Fit a) (hb:Fit b) {M:Nat} (hM:16777216<=M):len 4294967296 (a*b).natAbs<=M:=Nat.le_trans (ZZ (M:=8388608) (K:=8388608) ha hb) hM
theorem V7 (x y:Int):(x<y/\zG x y= -1)\/(x=y/\zG x y=0)\/(y<x/\zG x y=1):=by
 unfold zG
 rcases Int.lt_trichotomy x y with h | h | h
 . exact .inl ⟨h,by rw [if_pos h]⟩
 . exact .inr (.inl ⟨h,by rw [if_neg (by omega),if_neg (by omega)]⟩)
 . exact .inr (.inr ⟨h,by rw [if_neg (by omega),if_pos h]⟩)
theorem zax {z:Int}:(zG z 0 ≥ 0)↔0<=z:=by
 rcases V7 z 0 with h | h | h<;>omega
def ze2:Option Nat->Int
 | none=> -1
 | some j=>(j:Int)
section
variable {T:ym} {room c n j:Nat}
theorem ym.leave_pos (h:0<=T.cell n c):T.leave room c (n+1)=T.leave room c n:=by
 show (if _ then _ else _)=_
 rw [if_pos h]
theorem ym.leave_none (h:¬ 0<=T.cell n c) (hn:T.leave room c n=none):T.leave room c (n+1)=some n:=by
 show (if _ then _ else match T.leave room c n with | none=>_ | some j=>_)=_
 rw [if_neg h,hn]
theorem ym.leave_yes (h:¬ 0<=T.cell n c) (hn:T.leave room c n=some j) (ha:T.ahead room c n j):T.leave room c (n+1)=some n:=by
 show (if _ then _ else match T.leave room c n with | none=>_ | some j=>_)=_
 rw [if_neg h,hn]
 exact if_pos ha
theorem ym.leave_no (h:¬ 0<=T.cell n c) (hn:T.leave room c n=some j) (ha:¬ T.ahead room c n j):T.leave room c (n+1)=some j:=by
 show (if _ then _ else match T.leave room c n with | none=>_ | some j=>_)=_
 rw [if_neg h,hn]
 exact if_neg ha
end
theorem za6 (base m L:Nat) (F:zN) (T:ym) (w:World) (hT:zW base m L F w T) (hm:m<=100000) (hL:L<=100000):
 Calls Tryz.prog 200 #[.pointer (some ⟨F.gt,0,none⟩)] w (zca w (.int .i64 ((2*F.nn+m:Nat):Int))):=by
 have t1:=hT.cell1
 have t2:=hT.cell2
 have hc:=hT.cols
 have h1:IntKind.i64.wrap (2*(F.nn:Int))=2*(F.nn:Int):=by rw [IntKind.wrap_i64];omega
 have h2:IntKind.i64.wrap (2*(F.nn:Int)+(m:Int))=2*(F.nn:Int)+(m:Int):=by rw [IntKind.wrap_i64];omega
 clear hT hc
 go_enter Tryz.func200,Tryz.ntmps200
 go_upto_region 1 with fail
 go_region
 go_wp2_with fail
 go_ret
 exact ⟨by push_cast;rfl,(zz w).out⟩
def LvR (w0:World) (base m L:Nat) (F:zN) (T:ym) (c:Nat) (bv iv:Value) (wr:World):Prop:=
 ∃ i:Nat,i<=m/\iv= .int .i64 (i:Nat)/\bv= .int .i64 (ze2 (T.leave (2*F.nn+m) c i))/\Hid (zW base m L F wr T)/\Hid (Below w0.heap.size w0 wr)
theorem X3 (base m L:Nat) (F:zN) (T:ym) (c:Nat) (w:World) (hT:zW base m L F w T) (hf:T.Fits m L) (hc:c<L) (hm:m<=100000) (hL:L<=100000):
 Calls Tryz.prog 236 #[.pointer (some ⟨F.gt,0,none⟩),.int .i64 c] w (zca w (.int .i64 (ze2 (T.leave (2*F.nn+m) c m)))):=by
 have t1:=hT.cell1
 have HT:=ze hT
 have HF:=ze hf
 have HL2:=ze hT.lt2
 have hL1:0<L:=by have:=HL2.out;omega
 have hci:(c:Int)<(L:Int):=by omega
 have hL0:(0:Int)<(L:Int):=by omega
 have HROOM:=ze (fun w' (h:zW base m L F w' T)=>za6 base m L F T w' h hm hL)
 obtain ⟨rm,HRM⟩:∃ rm:Nat,Hid (2*F.nn+m=rm):=⟨_,rfl⟩
 rw [HRM.out] at HROOM |-
 have HW:=ze (xu w)
 clear hT hf
 go_enter Tryz.func236,Tryz.ntmps236
 go_wp2_with fail
 go_loopw [5,15] (LvR w base m L F T c) (fun _ iv _=>m - (intOf iv).toNat)
 case atStart=>exact ⟨0,Nat.zero_le _,rfl,rfl,HT,HW⟩
 case round=>
  clear HT HW t1
  obtain ⟨i,hi,rfl,rfl,HT,HW⟩:=hrel
  rw [HRM.out]
  by_cases hil:i<m
  . have hii:(i:Int)<(m:Int):=by omega
    have hi1:(i:Int)<(m:Int)+1:=by omega
    have t3:=HT.out.cell3;have t4:=HT.out.mat.cell (i:=i) (by omega);obtain ⟨ax,aA,an,ac,ag,a0,a1,a2,ha⟩:=HT.out.mat.at_ (i:=i) (k:=c) (by omega) hc;obtain ⟨sg,hsg⟩:∃ sg:Int,zG (T.cell i c) 0=sg:=⟨_,rfl⟩;have hcp:=zax (z:=T.cell i c);have hsi:=Ye _ _ wr ha;rw [hsg] at hcp hsi;have HSI:=ze hsi;clear hsg ha hsi
    by_cases hp:0<=T.cell i c
    . have d1:decide (sg ≥ 0)=true:=decide_eq_true (hcp.2 hp)
      have HEN:Hid (T.leave rm c (i+1)=T.leave rm c i):=T.leave_pos hp;clear hcp hp;go_wp2_with fail;refine HSI.out.mono ?_;rintro e w1 ⟨rfl,hb1⟩;replace HT:=ze (HT.out.below hb1);replace HW:=eb_ HW hb1;clear hb1 HSI t3 t4 a0 a1 a2;go_wp2_with fail;go_roundw
      case rel=>exact ⟨i+1,by omega,by go_num,by rw [HRM.out,HEN.out],HT,HW⟩
      case measure=>simp [intOf];omega
    . have d1:decide (sg ≥ 0)=false:=decide_eq_false (fun h=>hp (hcp.1 h))
      have HP:Hid (T.cell i c<0):=Int.not_le.1 hp;clear hcp hp
      cases hlv:T.leave rm c i with
      | none=>
        have HEN:Hid (T.leave rm c (i+1)=some i):=T.leave_none (Int.not_le.2 HP.out) hlv;have d2:decide (ze2 none<0)=true:=by decide
        have d3:ze2 none= -1:=rfl;clear hlv;go_wp2_with fail;refine HSI.out.mono ?_;rintro e w1 ⟨rfl,hb1⟩;replace HT:=ze (HT.out.below hb1);replace HW:=eb_ HW hb1;clear hb1 HSI t3 t4 a0 a1 a2;go_wp2_with fail;go_roundw
        case rel=>exact ⟨i+1,by omega,by go_num,(by rw [HRM.out,HEN.out];rfl),HT,HW⟩
        case measure=>simp [intOf];omega
      | some j=>
        have hjl:=T.leave_lt rm c i j hlv;have hj1:(j:Int)<(m:Int)+1:=by omega
        have hj0:(0:Int)<=(j:Int):=by omega
        have d2:decide ((j:Int)<0)=false:=by rw [decide_eq_false_iff_not];omega
        have d3:ze2 (some j)=(j:Int):=rfl;have HLV:=ze hlv;clear hlv;rw [d3];go_wp2_with fail;refine HSI.out.mono ?_;rintro e w1 ⟨rfl,hb1⟩;replace HT:=ze (HT.out.below hb1);replace HW:=eb_ HW hb1;clear hb1 HSI t3 t4 a0 a1 a2 d3;have t3:=HT.out.cell3;have t4:=HT.out.mat.cell (i:=j) (by omega)
        skip
        go_upto_region 10 with fail
        clear t3 t4;obtain ⟨ax,aA,an,ac,ag,a0,a1,a2,ha⟩:=HT.out.mat.at_ (i:=i) (k:=c) (by omega) hc;obtain ⟨bx,bA,bn,bc,bg,b0,b1,b2,hbn⟩:=HT.out.mat.at_ (i:=j) (k:=c) (by omega) hc;obtain ⟨cx,cA,cn,cc,cg,c0,c1,c2,hcn⟩:=HT.out.mat.at_ (i:=i) (k:=0) (by omega) (by omega);obtain ⟨ex,eA,en,ec,eg,e0,e1,e2,hen⟩:=HT.out.mat.at_ (i:=j) (k:=0) (by omega) (by omega);simp only [Nat.zero_mul,Nat.zero_add] at c0 c1 c2 e0 e1 e2;have aL:=(HT.out.mat.rows i (by omega)).2.lt;have bL:=(HT.out.mat.rows j (by omega)).2.lt;have HA:=ze ha;have HBN:=ze hbn;have HCN:=ze hcn;have HEN0:=ze hen;have N1:=ze (HF.out.cell i c (by omega) hc);have N2:=ze (HF.out.cell j c (by omega) hc);have N3:=ze (HF.out.cell i 0 (by omega) (by omega));have N4:=ze (HF.out.cell j 0 (by omega) (by omega));clear ha hbn hcn hen
        refine zq (S:=fun w' =>Hid (Below w1.heap.size w1 w')/\w'.cell? ⟨F.g i,c*3,none⟩=some (.int .i64 ax)/\w'.cell? ⟨F.g i,c*3+1,none⟩=some (.slice aA an ac)/\w'.cell? ⟨F.g i,c*3+2,none⟩=some (.bool ag)/\w'.cell? ⟨F.g j,c*3,none⟩=some (.int .i64 bx)/\w'.cell? ⟨F.g j,c*3+1,none⟩=some (.slice bA bn bc)/\w'.cell? ⟨F.g j,c*3+2,none⟩=some (.bool bg)/\w'.cell? ⟨F.g i,0,none⟩=some (.int .i64 cx)/\w'.cell? ⟨F.g i,1,none⟩=some (.slice cA cn cc)/\w'.cell? ⟨F.g i,2,none⟩=some (.bool cg)/\w'.cell? ⟨F.g j,0,none⟩=some (.int .i64 ex)/\w'.cell? ⟨F.g j,1,none⟩=some (.slice eA en ec)/\w'.cell? ⟨F.g j,2,none⟩=some (.bool eg)) 7 12 19 rfl (by kernel_rfl) (by kernel_rfl) (by kernel_rfl) rfl (zl (zz w1) (fun hB=>⟨zh hB aL a0,zh hB aL a1,zh hB aL a2,zh hB bL b0,zh hB bL b1,zh hB bL b2,zh hB aL c0,zh hB aL c1,zh hB aL c2,zh hB bL e0,zh hB bL e1,zh hB bL e2⟩)) ?_ (fun hHeld=>?_)
        . intro _ _ _ _ _ h9;exact h9
        simp only [List.take_succ_cons,List.take_zero]
        iterate 7 (refine zD (v:=?_) ?_ ?_;rotate_left;(focus (as_aux_lemma=>(intro w9 hSw;(try dsimp only at hSw);go_split_ands;go_simp;try with_reducible rfl)));try simp only [Act.put,List.setIfInBounds_toArray,List.set_cons_zero,List.set_cons_succ])
        refine zI ?_;refine HH.take 9 (oi:=_) (v:=?_) rfl (by kernel_rfl) (by kernel_rfl) (by kernel_rfl) (fun _ _ _ h=>h) (Or.inl ⟨by rfl,?_⟩) ‹_› ?_;rotate_left
        . (intro w9 hSw;(try dsimp only at hSw);go_split_ands;go_simp;try with_reducible rfl)
        try simp only [Act.put,List.getElem_toArray,List.getElem_cons_succ,List.getElem_cons_zero,List.setIfInBounds_toArray,List.set_cons_zero,List.set_cons_succ]
        refine HH.take 10 (oi:=_) (v:=?_) rfl (by kernel_rfl) (by kernel_rfl) (by kernel_rfl) (fun _ _ _ h=>h) (Or.inl ⟨by rfl,?_⟩) ‹_› ?_;rotate_left
        . (intro w9 hSw;(try dsimp only at hSw);go_split_ands;go_simp;try with_reducible rfl)
        try simp only [Act.put,List.getElem_toArray,List.getElem_cons_succ,List.getElem_cons_zero,List.setIfInBounds_toArray,List.set_cons_zero,List.set_cons_succ]
        refine HH.take 11 (oi:=_) (v:=?_) rfl (by kernel_rfl) (by kernel_rfl) (by kernel_rfl) (fun _ _ _ h=>h) (Or.inl ⟨by rfl,?_⟩) ‹_› ?_;rotate_left
        . (intro w9 hSw;(try dsimp only at hSw);go_split_ands;go_simp;try with_reducible rfl)
        try simp only [Act.put,List.getElem_toArray,List.getElem_cons_succ,List.getElem_cons_zero,List.setIfInBounds_toArray,List.set_cons_zero,List.set_cons_succ]
        refine HH.take 12 (oi:=_) (v:=?_) rfl (by kernel_rfl) (by kernel_rfl) (by kernel_rfl) (fun _ _ _ h=>h) (Or.inl ⟨by rfl,?_⟩) ‹_› ?_;rotate_left
        . (intro w9 hSw;(try dsimp only at hSw);go_split_ands;go_simp;try with_reducible rfl)
        try simp only [Act.put,List.getElem_toArray,List.getElem_cons_succ,List.getElem_cons_zero,List.setIfInBounds_toArray,List.set_cons_zero,List.set_cons_succ]
        refine HH.take 13 (oi:=_) (v:=?_) rfl (by kernel_rfl) (by kernel_rfl) (by kernel_rfl) (fun _ _ _ h=>h) (Or.inl ⟨by rfl,?_⟩) ‹_› ?_;rotate_left
        . (intro w9 hSw;(try dsimp only at hSw);go_split_ands;go_simp;try with_reducible rfl)
        try simp only [Act.put,List.getElem_toArray,List.getElem_cons_succ,List.getElem_cons_zero,List.setIfInBounds_toArray,List.set_cons_zero,List.set_cons_succ]
        refine HH.take 14 (oi:=_) (v:=?_) rfl (by kernel_rfl) (by kernel_rfl) (by kernel_rfl) (fun _ _ _ h=>h) (Or.inl ⟨by rfl,?_⟩) ‹_› ?_;rotate_left
        . (intro w9 hSw;(try dsimp only at hSw);go_split_ands;go_simp;try with_reducible rfl)
        try simp only [Act.put,List.getElem_toArray,List.getElem_cons_succ,List.getElem_cons_zero,List.setIfInBounds_toArray,List.set_cons_zero,List.set_cons_succ]
        refine HH.take 15 (oi:=_) (v:=?_) rfl (by kernel_rfl) (by kernel_rfl) (by kernel_rfl) (fun _ _ _ h=>h) (Or.inl ⟨by rfl,?_⟩) ‹_› ?_;rotate_left
        . (intro w9 hSw;(try dsimp only at hSw);go_split_ands;go_simp;try with_reducible rfl)
        try simp only [Act.put,List.getElem_toArray,List.getElem_cons_succ,List.getElem_cons_zero,List.setIfInBounds_toArray,List.set_cons_zero,List.set_cons_succ]
        refine HH.ready (rs:=[7]) (by kernel_rfl) (by simp) (by kernel_rfl) ?_;refine zu.cons (o:=_) rfl (fun K hK=>?_) zu.nil
        go_simp
        go_at_call 188;refine (yH _ _ _ (HBN.out.below hHeld.1.out)).mono ?_;rintro e w2 ⟨v1,rfl,hv,hb2⟩;have HX1:=ze hv;clear hv;have hH0:=hHeld;clear hHeld;refine hK.out _ _ (zl (zt hb2 hH0.1) (fun hB=>⟨zh hB aL a0,zh hB aL a1,zh hB aL a2,zh hB bL b0,zh hB bL b1,zh hB bL b2,zh hB aL c0,zh hB aL c1,zh hB aL c2,zh hB bL e0,zh hB bL e1,zh hB bL e2⟩)) (fun hHeld=>?_);clear hH0 hK K
        try simp only [Act.put,List.setIfInBounds_toArray,List.set_cons_zero,List.set_cons_succ]
        clear hb2;refine HH.ready (rs:=[8]) (by kernel_rfl) (by simp) (by kernel_rfl) ?_;refine zu.cons (o:=_) rfl (fun K hK=>?_) zu.nil
        go_simp
        go_at_call 161;refine (xq _ _ _ _ _ (HCN.out.below hHeld.1.out) HX1.out (N3.out.le2 (by omega)) (N2.out.neg.le2 (by omega))).mono ?_;rintro e w3 ⟨v2,rfl,hv,hb2⟩;have HX2:=ze hv;clear hv HX1;have hH0:=hHeld;clear hHeld;refine hK.out _ _ (zl (zt hb2 hH0.1) (fun hB=>⟨zh hB aL a0,zh hB aL a1,zh hB aL a2,zh hB bL b0,zh hB bL b1,zh hB bL b2,zh hB aL c0,zh hB aL c1,zh hB aL c2,zh hB bL e0,zh hB bL e1,zh hB bL e2⟩)) (fun hHeld=>?_);clear hH0 hK K
        try simp only [Act.put,List.setIfInBounds_toArray,List.set_cons_zero,List.set_cons_succ]
        clear hb2;refine HH.ready (rs:=[16]) (by kernel_rfl) (by simp) (by kernel_rfl) ?_;refine zu.cons (o:=_) rfl (fun K hK=>?_) zu.nil
        go_simp
        go_at_call 188;refine (yH _ _ _ (HA.out.below hHeld.1.out)).mono ?_;rintro e w4 ⟨v3,rfl,hv,hb2⟩;have HX3:=ze hv;replace HX2:=ze (HX2.out.below hb2);clear hv;have hH0:=hHeld;clear hHeld;refine hK.out _ _ (zl (zt hb2 hH0.1) (fun hB=>⟨zh hB aL a0,zh hB aL a1,zh hB aL a2,zh hB bL b0,zh hB bL b1,zh hB bL b2,zh hB aL c0,zh hB aL c1,zh hB aL c2,zh hB bL e0,zh hB bL e1,zh hB bL e2⟩)) (fun hHeld=>?_);clear hH0 hK K
        try simp only [Act.put,List.setIfInBounds_toArray,List.set_cons_zero,List.set_cons_succ]
        clear hb2;refine HH.ready (rs:=[17]) (by kernel_rfl) (by simp) (by kernel_rfl) ?_;refine zu.cons (o:=_) rfl (fun K hK=>?_) zu.nil
        go_simp
        go_at_call 161;refine (xq _ _ _ _ _ (HEN0.out.below hHeld.1.out) HX3.out (N4.out.le2 (by omega)) (N1.out.neg.le2 (by omega))).mono ?_;rintro e w5 ⟨v4,rfl,hv,hb2⟩;have HX4:=ze hv;replace HX2:=ze (HX2.out.below hb2);clear hv HX3;have hH0:=hHeld;clear hHeld;refine hK.out _ _ (zl (zt hb2 hH0.1) (fun hB=>⟨zh hB aL a0,zh hB aL a1,zh hB aL a2,zh hB bL b0,zh hB bL b1,zh hB bL b2,zh hB aL c0,zh hB aL c1,zh hB aL c2,zh hB bL e0,zh hB bL e1,zh hB bL e2⟩)) (fun hHeld=>?_);clear hH0 hK K
        try simp only [Act.put,List.setIfInBounds_toArray,List.set_cons_zero,List.set_cons_succ]
        clear hb2;refine HH.ready (rs:=[18]) (by kernel_rfl) (by simp) (by kernel_rfl) ?_;refine zu.cons (o:=_) rfl (fun K hK=>?_) zu.nil
        go_simp
        go_at_call 154;refine (zfj _ _ _ _ _ HX2.out HX4.out (Yo N3.out N2.out.neg (by omega)) (Yo N4.out N1.out.neg (by omega))).mono ?_;rintro e w6 ⟨rfl,hb2⟩;have hH0:=hHeld;clear hHeld;refine hK.out _ _ (zl (zt hb2 hH0.1) (fun hB=>⟨zh hB aL a0,zh hB aL a1,zh hB aL a2,zh hB bL b0,zh hB bL b1,zh hB bL b2,zh hB aL c0,zh hB aL c1,zh hB aL c2,zh hB bL e0,zh hB bL e1,zh hB bL e2⟩)) (fun hHeld=>?_);clear hH0 hK K
        try simp only [Act.put,List.setIfInBounds_toArray,List.set_cons_zero,List.set_cons_succ]
        clear hb2 HX2 HX4;have HBY:=(hHeld.1).out;replace HT:=ze (zW.below HT.out HBY);replace HW:=eb_ HW HBY;clear HBY hHeld;refine HH.done (by kernel_rfl) ?_;simp only [List.drop_succ_cons,List.drop_zero];clear HA HBN HCN HEN0 N1 N2 N3 N4 a0 a1 a2 b0 b1 b2 c0 c1 c2 e0 e1 e2 aL bL;obtain ⟨cv,hcv⟩:∃ cv:Int,zG (T.cell i 0* -(T.cell j c)) (T.cell j 0* -(T.cell i c))=cv:=⟨_,rfl⟩;have hcc:=V7 (T.cell i 0* -(T.cell j c)) (T.cell j 0* -(T.cell i c));rw [hcv] at hcc |-;clear hcv
        go_upto_region 11 with fail
        skip
        have tL:=HT.out.lt;obtain ⟨gb,cb,eb,hgb,hbc⟩:=HT.out.basics (by omega);have t7:=HT.out.cell7;rw [eb] at t7;have o1:=hbc i hil;have o2:=hbc j (by omega);have hjm:(j:Int)<(m:Int):=by omega
        rcases hcc with ⟨hcc,rfl⟩ | ⟨hcc,rfl⟩ | ⟨hcc,rfl⟩
        . have HEN:Hid (T.leave rm c (i+1)=some i):=T.leave_yes (Int.not_le.2 HP.out) HLV.out (.inl hcc)
          clear hcc;refine zq (S:=fun w' =>Hid (Below w6.heap.size w6 w')/\w'.cell? ⟨F.gt,7,none⟩=some (.slice (some ⟨gb,0,none⟩) m cb)/\w'.cell? ⟨gb,i,none⟩=some (.int .i64 (T.basic i:Nat))/\w'.cell? ⟨gb,j,none⟩=some (.int .i64 (T.basic j:Nat))) 3 43 46 rfl (by kernel_rfl) (by kernel_rfl) (by kernel_rfl) rfl (zl (zz w6) (fun hB=>⟨zh hB tL t7,zh hB hgb o1,zh hB hgb o2⟩)) ?_ (fun hHeld=>?_)
          . intro _ _ _ _ _ h9;exact h9
          simp only [List.take_succ_cons,List.take_zero]
          iterate 3 (refine zD (v:=?_) ?_ ?_;rotate_left;(focus (as_aux_lemma=>(intro w9 hSw;(try dsimp only at hSw);go_split_ands;go_simp;try with_reducible rfl)));try simp only [Act.put,List.setIfInBounds_toArray,List.set_cons_zero,List.set_cons_succ])
          refine zI ?_;refine HH.take 3 (oi:=_) (v:=_) rfl (by kernel_rfl) (by kernel_rfl) (by kernel_rfl) (fun _ _ _ h=>h) (Or.inr ⟨by rfl,rfl⟩) ‹_› ?_
          try simp only [Act.put,List.getElem_toArray,List.getElem_cons_succ,List.getElem_cons_zero,List.setIfInBounds_toArray,List.set_cons_zero,List.set_cons_succ]
          refine HH.take 4 (oi:=_) (v:=_) rfl (by kernel_rfl) (by kernel_rfl) (by kernel_rfl) (fun _ _ _ h=>h) (Or.inr ⟨by rfl,rfl⟩) ‹_› ?_
          try simp only [Act.put,List.getElem_toArray,List.getElem_cons_succ,List.getElem_cons_zero,List.setIfInBounds_toArray,List.set_cons_zero,List.set_cons_succ]
          refine HH.take 5 (oi:=_) (v:=_) rfl (by kernel_rfl) (by kernel_rfl) (by kernel_rfl) (fun _ _ _ h=>h) (Or.inr ⟨by rfl,rfl⟩) ‹_› ?_
          try simp only [Act.put,List.getElem_toArray,List.getElem_cons_succ,List.getElem_cons_zero,List.setIfInBounds_toArray,List.set_cons_zero,List.set_cons_succ]
          refine HH.take 6 (oi:=_) (v:=_) rfl (by kernel_rfl) (by kernel_rfl) (by kernel_rfl) (fun _ _ _ h=>h) (Or.inr ⟨by rfl,rfl⟩) ‹_› ?_
          try simp only [Act.put,List.getElem_toArray,List.getElem_cons_succ,List.getElem_cons_zero,List.setIfInBounds_toArray,List.set_cons_zero,List.set_cons_succ]
          refine HH.take 7 (oi:=_) (v:=_) rfl (by kernel_rfl) (by kernel_rfl) (by kernel_rfl) (fun _ _ _ h=>h) (Or.inr ⟨by rfl,rfl⟩) ‹_› ?_
          try simp only [Act.put,List.getElem_toArray,List.getElem_cons_succ,List.getElem_cons_zero,List.setIfInBounds_toArray,List.set_cons_zero,List.set_cons_succ]
          refine HH.take 8 (oi:=_) (v:=_) rfl (by kernel_rfl) (by kernel_rfl) (by kernel_rfl) (fun _ _ _ h=>h) (Or.inr ⟨by rfl,rfl⟩) ‹_› ?_
          try simp only [Act.put,List.getElem_toArray,List.getElem_cons_succ,List.getElem_cons_zero,List.setIfInBounds_toArray,List.set_cons_zero,List.set_cons_succ]
          refine HH.take 9 (oi:=_) (v:=_) rfl (by kernel_rfl) (by kernel_rfl) (by kernel_rfl) (fun _ _ _ h=>h) (Or.inr ⟨by rfl,rfl⟩) ‹_› ?_
          try simp only [Act.put,List.getElem_toArray,List.getElem_cons_succ,List.getElem_cons_zero,List.setIfInBounds_toArray,List.set_cons_zero,List.set_cons_succ]
          refine HH.take 10 (oi:=_) (v:=_) rfl (by kernel_rfl) (by kernel_rfl) (by kernel_rfl) (fun _ _ _ h=>h) (Or.inr ⟨by rfl,rfl⟩) ‹_› ?_
          try simp only [Act.put,List.getElem_toArray,List.getElem_cons_succ,List.getElem_cons_zero,List.setIfInBounds_toArray,List.set_cons_zero,List.set_cons_succ]
          refine HH.take 11 (oi:=_) (v:=_) rfl (by kernel_rfl) (by kernel_rfl) (by kernel_rfl) (fun _ _ _ h=>h) (Or.inr ⟨by rfl,rfl⟩) ‹_› ?_
          try simp only [Act.put,List.getElem_toArray,List.getElem_cons_succ,List.getElem_cons_zero,List.setIfInBounds_toArray,List.set_cons_zero,List.set_cons_succ]
          refine HH.take 12 (oi:=_) (v:=_) rfl (by kernel_rfl) (by kernel_rfl) (by kernel_rfl) (fun _ _ _ h=>h) (Or.inr ⟨by rfl,rfl⟩) ‹_› ?_
          try simp only [Act.put,List.getElem_toArray,List.getElem_cons_succ,List.getElem_cons_zero,List.setIfInBounds_toArray,List.set_cons_zero,List.set_cons_succ]
          refine HH.take 13 (oi:=_) (v:=_) rfl (by kernel_rfl) (by kernel_rfl) (by kernel_rfl) (fun _ _ _ h=>h) (Or.inr ⟨by rfl,rfl⟩) ‹_› ?_
          try simp only [Act.put,List.getElem_toArray,List.getElem_cons_succ,List.getElem_cons_zero,List.setIfInBounds_toArray,List.set_cons_zero,List.set_cons_succ]
          refine HH.take 14 (oi:=_) (v:=_) rfl (by kernel_rfl) (by kernel_rfl) (by kernel_rfl) (fun _ _ _ h=>h) (Or.inr ⟨by rfl,rfl⟩) ‹_› ?_
          try simp only [Act.put,List.getElem_toArray,List.getElem_cons_succ,List.getElem_cons_zero,List.setIfInBounds_toArray,List.set_cons_zero,List.set_cons_succ]
          refine HH.take 15 (oi:=_) (v:=_) rfl (by kernel_rfl) (by kernel_rfl) (by kernel_rfl) (fun _ _ _ h=>h) (Or.inr ⟨by rfl,rfl⟩) ‹_› ?_
          try simp only [Act.put,List.getElem_toArray,List.getElem_cons_succ,List.getElem_cons_zero,List.setIfInBounds_toArray,List.set_cons_zero,List.set_cons_succ]
          refine HH.take 16 (oi:=_) (v:=_) rfl (by kernel_rfl) (by kernel_rfl) (by kernel_rfl) (fun _ _ _ h=>h) (Or.inr ⟨by rfl,rfl⟩) ‹_› ?_
          try simp only [Act.put,List.getElem_toArray,List.getElem_cons_succ,List.getElem_cons_zero,List.setIfInBounds_toArray,List.set_cons_zero,List.set_cons_succ]
          refine HH.take 17 (oi:=_) (v:=_) rfl (by kernel_rfl) (by kernel_rfl) (by kernel_rfl) (fun _ _ _ h=>h) (Or.inr ⟨by rfl,rfl⟩) ‹_› ?_
          try simp only [Act.put,List.getElem_toArray,List.getElem_cons_succ,List.getElem_cons_zero,List.setIfInBounds_toArray,List.set_cons_zero,List.set_cons_succ]
          refine HH.take 18 (oi:=_) (v:=_) rfl (by kernel_rfl) (by kernel_rfl) (by kernel_rfl) (fun _ _ _ h=>h) (Or.inr ⟨by rfl,rfl⟩) ‹_› ?_
          try simp only [Act.put,List.getElem_toArray,List.getElem_cons_succ,List.getElem_cons_zero,List.setIfInBounds_toArray,List.set_cons_zero,List.set_cons_succ]
          refine HH.take 19 (oi:=_) (v:=_) rfl (by kernel_rfl) (by kernel_rfl) (by kernel_rfl) (fun _ _ _ h=>h) (Or.inr ⟨by rfl,rfl⟩) ‹_› ?_
          try simp only [Act.put,List.getElem_toArray,List.getElem_cons_succ,List.getElem_cons_zero,List.setIfInBounds_toArray,List.set_cons_zero,List.set_cons_succ]
          refine HH.take 20 (oi:=_) (v:=_) rfl (by kernel_rfl) (by kernel_rfl) (by kernel_rfl) (fun _ _ _ h=>h) (Or.inr ⟨by rfl,rfl⟩) ‹_› ?_
          try simp only [Act.put,List.getElem_toArray,List.getElem_cons_succ,List.getElem_cons_zero,List.setIfInBounds_toArray,List.set_cons_zero,List.set_cons_succ]
          refine HH.take 21 (oi:=_) (v:=_) rfl (by kernel_rfl) (by kernel_rfl) (by kernel_rfl) (fun _ _ _ h=>h) (Or.inr ⟨by rfl,rfl⟩) ‹_› ?_
          try simp only [Act.put,List.getElem_toArray,List.getElem_cons_succ,List.getElem_cons_zero,List.setIfInBounds_toArray,List.set_cons_zero,List.set_cons_succ]
          refine HH.take 22 (oi:=_) (v:=_) rfl (by kernel_rfl) (by kernel_rfl) (by kernel_rfl) (fun _ _ _ h=>h) (Or.inr ⟨by rfl,rfl⟩) ‹_› ?_
          try simp only [Act.put,List.getElem_toArray,List.getElem_cons_succ,List.getElem_cons_zero,List.setIfInBounds_toArray,List.set_cons_zero,List.set_cons_succ]
          refine HH.take 23 (oi:=_) (v:=_) rfl (by kernel_rfl) (by kernel_rfl) (by kernel_rfl) (fun _ _ _ h=>h) (Or.inr ⟨by rfl,rfl⟩) ‹_› ?_
          try simp only [Act.put,List.getElem_toArray,List.getElem_cons_succ,List.getElem_cons_zero,List.setIfInBounds_toArray,List.set_cons_zero,List.set_cons_succ]
          refine HH.take 24 (oi:=_) (v:=_) rfl (by kernel_rfl) (by kernel_rfl) (by kernel_rfl) (fun _ _ _ h=>h) (Or.inr ⟨by rfl,rfl⟩) ‹_› ?_
          try simp only [Act.put,List.getElem_toArray,List.getElem_cons_succ,List.getElem_cons_zero,List.setIfInBounds_toArray,List.set_cons_zero,List.set_cons_succ]
          refine HH.take 25 (oi:=_) (v:=_) rfl (by kernel_rfl) (by kernel_rfl) (by kernel_rfl) (fun _ _ _ h=>h) (Or.inr ⟨by rfl,rfl⟩) ‹_› ?_
          try simp only [Act.put,List.getElem_toArray,List.getElem_cons_succ,List.getElem_cons_zero,List.setIfInBounds_toArray,List.set_cons_zero,List.set_cons_succ]
          refine HH.take 26 (oi:=_) (v:=_) rfl (by kernel_rfl) (by kernel_rfl) (by kernel_rfl) (fun _ _ _ h=>h) (Or.inr ⟨by rfl,rfl⟩) ‹_› ?_
          try simp only [Act.put,List.getElem_toArray,List.getElem_cons_succ,List.getElem_cons_zero,List.setIfInBounds_toArray,List.set_cons_zero,List.set_cons_succ]
          refine HH.take 27 (oi:=_) (v:=_) rfl (by kernel_rfl) (by kernel_rfl) (by kernel_rfl) (fun _ _ _ h=>h) (Or.inr ⟨by rfl,rfl⟩) ‹_› ?_
          try simp only [Act.put,List.getElem_toArray,List.getElem_cons_succ,List.getElem_cons_zero,List.setIfInBounds_toArray,List.set_cons_zero,List.set_cons_succ]
          refine HH.take 28 (oi:=_) (v:=_) rfl (by kernel_rfl) (by kernel_rfl) (by kernel_rfl) (fun _ _ _ h=>h) (Or.inr ⟨by rfl,rfl⟩) ‹_› ?_
          try simp only [Act.put,List.getElem_toArray,List.getElem_cons_succ,List.getElem_cons_zero,List.setIfInBounds_toArray,List.set_cons_zero,List.set_cons_succ]
          refine HH.take 29 (oi:=_) (v:=_) rfl (by kernel_rfl) (by kernel_rfl) (by kernel_rfl) (fun _ _ _ h=>h) (Or.inr ⟨by rfl,rfl⟩) ‹_› ?_
          try simp only [Act.put,List.getElem_toArray,List.getElem_cons_succ,List.getElem_cons_zero,List.setIfInBounds_toArray,List.set_cons_zero,List.set_cons_succ]
          refine HH.take 30 (oi:=_) (v:=_) rfl (by kernel_rfl) (by kernel_rfl) (by kernel_rfl) (fun _ _ _ h=>h) (Or.inr ⟨by rfl,rfl⟩) ‹_› ?_
          try simp only [Act.put,List.getElem_toArray,List.getElem_cons_succ,List.getElem_cons_zero,List.setIfInBounds_toArray,List.set_cons_zero,List.set_cons_succ]
          refine HH.take 31 (oi:=_) (v:=_) rfl (by kernel_rfl) (by kernel_rfl) (by kernel_rfl) (fun _ _ _ h=>h) (Or.inr ⟨by rfl,rfl⟩) ‹_› ?_
          try simp only [Act.put,List.getElem_toArray,List.getElem_cons_succ,List.getElem_cons_zero,List.setIfInBounds_toArray,List.set_cons_zero,List.set_cons_succ]
          refine HH.take 32 (oi:=_) (v:=_) rfl (by kernel_rfl) (by kernel_rfl) (by kernel_rfl) (fun _ _ _ h=>h) (Or.inr ⟨by rfl,rfl⟩) ‹_› ?_
          try simp only [Act.put,List.getElem_toArray,List.getElem_cons_succ,List.getElem_cons_zero,List.setIfInBounds_toArray,List.set_cons_zero,List.set_cons_succ]
          refine HH.take 33 (oi:=_) (v:=_) rfl (by kernel_rfl) (by kernel_rfl) (by kernel_rfl) (fun _ _ _ h=>h) (Or.inr ⟨by rfl,rfl⟩) ‹_› ?_
          try simp only [Act.put,List.getElem_toArray,List.getElem_cons_succ,List.getElem_cons_zero,List.setIfInBounds_toArray,List.set_cons_zero,List.set_cons_succ]
          refine HH.take 34 (oi:=_) (v:=_) rfl (by kernel_rfl) (by kernel_rfl) (by kernel_rfl) (fun _ _ _ h=>h) (Or.inr ⟨by rfl,rfl⟩) ‹_› ?_
          try simp only [Act.put,List.getElem_toArray,List.getElem_cons_succ,List.getElem_cons_zero,List.setIfInBounds_toArray,List.set_cons_zero,List.set_cons_succ]
          refine HH.take 35 (oi:=_) (v:=_) rfl (by kernel_rfl) (by kernel_rfl) (by kernel_rfl) (fun _ _ _ h=>h) (Or.inr ⟨by rfl,rfl⟩) ‹_› ?_
          try simp only [Act.put,List.getElem_toArray,List.getElem_cons_succ,List.getElem_cons_zero,List.setIfInBounds_toArray,List.set_cons_zero,List.set_cons_succ]
          refine HH.take 36 (oi:=_) (v:=_) rfl (by kernel_rfl) (by kernel_rfl) (by kernel_rfl) (fun _ _ _ h=>h) (Or.inr ⟨by rfl,rfl⟩) ‹_› ?_
          try simp only [Act.put,List.getElem_toArray,List.getElem_cons_succ,List.getElem_cons_zero,List.setIfInBounds_toArray,List.set_cons_zero,List.set_cons_succ]
          refine HH.take 37 (oi:=_) (v:=_) rfl (by kernel_rfl) (by kernel_rfl) (by kernel_rfl) (fun _ _ _ h=>h) (Or.inr ⟨by rfl,rfl⟩) ‹_› ?_
          try simp only [Act.put,List.getElem_toArray,List.getElem_cons_succ,List.getElem_cons_zero,List.setIfInBounds_toArray,List.set_cons_zero,List.set_cons_succ]
          refine HH.take 38 (oi:=_) (v:=_) rfl (by kernel_rfl) (by kernel_rfl) (by kernel_rfl) (fun _ _ _ h=>h) (Or.inr ⟨by rfl,rfl⟩) ‹_› ?_
          try simp only [Act.put,List.getElem_toArray,List.getElem_cons_succ,List.getElem_cons_zero,List.setIfInBounds_toArray,List.set_cons_zero,List.set_cons_succ]
          refine HH.take 39 (oi:=_) (v:=_) rfl (by kernel_rfl) (by kernel_rfl) (by kernel_rfl) (fun _ _ _ h=>h) (Or.inr ⟨by rfl,rfl⟩) ‹_› ?_
          try simp only [Act.put,List.getElem_toArray,List.getElem_cons_succ,List.getElem_cons_zero,List.setIfInBounds_toArray,List.set_cons_zero,List.set_cons_succ]
          refine HH.take 40 (oi:=_) (v:=_) rfl (by kernel_rfl) (by kernel_rfl) (by kernel_rfl) (fun _ _ _ h=>h) (Or.inr ⟨by rfl,rfl⟩) ‹_› ?_
          try simp only [Act.put,List.getElem_toArray,List.getElem_cons_succ,List.getElem_cons_zero,List.setIfInBounds_toArray,List.set_cons_zero,List.set_cons_succ]
          refine HH.take 41 (oi:=_) (v:=_) rfl (by kernel_rfl) (by kernel_rfl) (by kernel_rfl) (fun _ _ _ h=>h) (Or.inr ⟨by rfl,rfl⟩) ‹_› ?_
          try simp only [Act.put,List.getElem_toArray,List.getElem_cons_succ,List.getElem_cons_zero,List.setIfInBounds_toArray,List.set_cons_zero,List.set_cons_succ]
          refine HH.take 42 (oi:=_) (v:=_) rfl (by kernel_rfl) (by kernel_rfl) (by kernel_rfl) (fun _ _ _ h=>h) (Or.inr ⟨by rfl,rfl⟩) ‹_› ?_
          try simp only [Act.put,List.getElem_toArray,List.getElem_cons_succ,List.getElem_cons_zero,List.setIfInBounds_toArray,List.set_cons_zero,List.set_cons_succ]
          refine HH.take 43 (oi:=_) (v:=_) rfl (by kernel_rfl) (by kernel_rfl) (by kernel_rfl) (fun _ _ _ h=>h) (Or.inr ⟨by rfl,rfl⟩) ‹_› ?_
          try simp only [Act.put,List.getElem_toArray,List.getElem_cons_succ,List.getElem_cons_zero,List.setIfInBounds_toArray,List.set_cons_zero,List.set_cons_succ]
          refine HH.take 44 (oi:=_) (v:=_) rfl (by kernel_rfl) (by kernel_rfl) (by kernel_rfl) (fun _ _ _ h=>h) (Or.inr ⟨by rfl,rfl⟩) ‹_› ?_
          try simp only [Act.put,List.getElem_toArray,List.getElem_cons_succ,List.getElem_cons_zero,List.setIfInBounds_toArray,List.set_cons_zero,List.set_cons_succ]
          refine HH.take 45 (oi:=_) (v:=_) rfl (by kernel_rfl) (by kernel_rfl) (by kernel_rfl) (fun _ _ _ h=>h) (Or.inr ⟨by rfl,rfl⟩) ‹_› ?_
          try simp only [Act.put,List.getElem_toArray,List.getElem_cons_succ,List.getElem_cons_zero,List.setIfInBounds_toArray,List.set_cons_zero,List.set_cons_succ]
          have HBY:=(hHeld.1).out;replace HT:=ze (zW.below HT.out HBY);replace HW:=eb_ HW HBY;clear HBY hHeld;refine HH.done (by kernel_rfl) ?_;simp only [List.drop_succ_cons,List.drop_zero];clear t7 o1 o2 tL hgb hbc;go_wp2_with fail;go_roundw
          case rel=>exact ⟨i+1,by omega,by go_num,(by rw [HRM.out,HEN.out];rfl),HT,HW⟩
          case measure=>simp [intOf];omega
        . by_cases h3:T.basic i=rm
          . have HEN:Hid (T.leave rm c (i+1)=some i):=T.leave_yes (Int.not_le.2 HP.out) HLV.out (.inr ⟨hcc,.inl h3⟩)
            have d4:((T.basic i:Int) == (rm:Int))=true:=by rw [beq_iff_eq];omega
            clear hcc h3;refine zq (S:=fun w' =>Hid (Below w6.heap.size w6 w')/\w'.cell? ⟨F.gt,7,none⟩=some (.slice (some ⟨gb,0,none⟩) m cb)/\w'.cell? ⟨gb,i,none⟩=some (.int .i64 (T.basic i:Nat))/\w'.cell? ⟨gb,j,none⟩=some (.int .i64 (T.basic j:Nat))) 3 43 46 rfl (by kernel_rfl) (by kernel_rfl) (by kernel_rfl) rfl (zl (zz w6) (fun hB=>⟨zh hB tL t7,zh hB hgb o1,zh hB hgb o2⟩)) ?_ (fun hHeld=>?_)
            . intro _ _ _ _ _ h9;exact h9
            simp only [List.take_succ_cons,List.take_zero]
            iterate 3 (refine zD (v:=?_) ?_ ?_;rotate_left;(focus (as_aux_lemma=>(intro w9 hSw;(try dsimp only at hSw);go_split_ands;go_simp;try with_reducible rfl)));try simp only [Act.put,List.setIfInBounds_toArray,List.set_cons_zero,List.set_cons_succ])
            refine zI ?_;refine HH.take 3 (oi:=_) (v:=?_) rfl (by kernel_rfl) (by kernel_rfl) (by kernel_rfl) (fun _ _ _ h=>h) (Or.inl ⟨by rfl,?_⟩) ‹_› ?_;rotate_left
            . (intro w9 hSw;(try dsimp only at hSw);go_split_ands;go_simp;try with_reducible rfl)
            try simp only [Act.put,List.getElem_toArray,List.getElem_cons_succ,List.getElem_cons_zero,List.setIfInBounds_toArray,List.set_cons_zero,List.set_cons_succ]
            refine HH.take 4 (oi:=_) (v:=?_) rfl (by kernel_rfl) (by kernel_rfl) (by kernel_rfl) (fun _ _ _ h=>h) (Or.inl ⟨by rfl,?_⟩) ‹_› ?_;rotate_left
            . (intro w9 hSw;(try dsimp only at hSw);go_split_ands;go_simp;try with_reducible rfl)
            try simp only [Act.put,List.getElem_toArray,List.getElem_cons_succ,List.getElem_cons_zero,List.setIfInBounds_toArray,List.set_cons_zero,List.set_cons_succ]
            refine HH.take 5 (oi:=_) (v:=?_) rfl (by kernel_rfl) (by kernel_rfl) (by kernel_rfl) (fun _ _ _ h=>h) (Or.inl ⟨by rfl,?_⟩) ‹_› ?_;rotate_left
            . (intro w9 hSw;(try dsimp only at hSw);go_split_ands;go_simp;try with_reducible rfl)
            try simp only [Act.put,List.getElem_toArray,List.getElem_cons_succ,List.getElem_cons_zero,List.setIfInBounds_toArray,List.set_cons_zero,List.set_cons_succ]
            refine HH.take 6 (oi:=_) (v:=?_) rfl (by kernel_rfl) (by kernel_rfl) (by kernel_rfl) (fun _ _ _ h=>h) (Or.inl ⟨by rfl,?_⟩) ‹_› ?_;rotate_left
            . (intro w9 hSw;(try dsimp only at hSw);go_split_ands;go_simp;try with_reducible rfl)
            try simp only [Act.put,List.getElem_toArray,List.getElem_cons_succ,List.getElem_cons_zero,List.setIfInBounds_toArray,List.set_cons_zero,List.set_cons_succ]
            refine HH.take 7 (oi:=_) (v:=?_) rfl (by kernel_rfl) (by kernel_rfl) (by kernel_rfl) (fun _ _ _ h=>h) (Or.inl ⟨by rfl,?_⟩) ‹_› ?_;rotate_left
            . (intro w9 hSw;(try dsimp only at hSw);go_split_ands;go_simp;try with_reducible rfl)
            try simp only [Act.put,List.getElem_toArray,List.getElem_cons_succ,List.getElem_cons_zero,List.setIfInBounds_toArray,List.set_cons_zero,List.set_cons_succ]
            refine HH.take 8 (oi:=_) (v:=?_) rfl (by kernel_rfl) (by kernel_rfl) (by kernel_rfl) (fun _ _ _ h=>h) (Or.inl ⟨by rfl,?_⟩) ‹_› ?_;rotate_left
            . (intro w9 hSw;(try dsimp only at hSw);go_split_ands;go_simp;try with_reducible rfl)
            try simp only [Act.put,List.getElem_toArray,List.getElem_cons_succ,List.getElem_cons_zero,List.setIfInBounds_toArray,List.set_cons_zero,List.set_cons_succ]
            refine HH.take 9 (oi:=_) (v:=?_) rfl (by kernel_rfl) (by kernel_rfl) (by kernel_rfl) (fun _ _ _ h=>h) (Or.inl ⟨by rfl,?_⟩) ‹_› ?_;rotate_left
            . (intro w9 hSw;(try dsimp only at hSw);go_split_ands;go_simp;try with_reducible rfl)
            try simp only [Act.put,List.getElem_toArray,List.getElem_cons_succ,List.getElem_cons_zero,List.setIfInBounds_toArray,List.set_cons_zero,List.set_cons_succ]
            refine HH.take 10 (oi:=_) (v:=?_) rfl (by kernel_rfl) (by kernel_rfl) (by kernel_rfl) (fun _ _ _ h=>h) (Or.inl ⟨by rfl,?_⟩) ‹_› ?_;rotate_left
            . (intro w9 hSw;(try dsimp only at hSw);go_split_ands;go_simp;try with_reducible rfl)
            try simp only [Act.put,List.getElem_toArray,List.getElem_cons_succ,List.getElem_cons_zero,List.setIfInBounds_toArray,List.set_cons_zero,List.set_cons_succ]
            refine HH.take 11 (oi:=_) (v:=?_) rfl (by kernel_rfl) (by kernel_rfl) (by kernel_rfl) (fun _ _ _ h=>h) (Or.inl ⟨by rfl,?_⟩) ‹_› ?_;rotate_left
            . (intro w9 hSw;(try dsimp only at hSw);go_split_ands;go_simp;try with_reducible rfl)
            try simp only [Act.put,List.getElem_toArray,List.getElem_cons_succ,List.getElem_cons_zero,List.setIfInBounds_toArray,List.set_cons_zero,List.set_cons_succ]
            refine HH.take 12 (oi:=_) (v:=?_) rfl (by kernel_rfl) (by kernel_rfl) (by kernel_rfl) (fun _ _ _ h=>h) (Or.inl ⟨by rfl,?_⟩) ‹_› ?_;rotate_left
            . (intro w9 hSw;(try dsimp only at hSw);go_split_ands;go_simp;try with_reducible rfl)
            try simp only [Act.put,List.getElem_toArray,List.getElem_cons_succ,List.getElem_cons_zero,List.setIfInBounds_toArray,List.set_cons_zero,List.set_cons_succ]
            refine HH.take 13 (oi:=_) (v:=?_) rfl (by kernel_rfl) (by kernel_rfl) (by kernel_rfl) (fun _ _ _ h=>h) (Or.inl ⟨by rfl,?_⟩) ‹_› ?_;rotate_left
            . (intro w9 hSw;(try dsimp only at hSw);go_split_ands;go_simp;try with_reducible rfl)
            try simp only [Act.put,List.getElem_toArray,List.getElem_cons_succ,List.getElem_cons_zero,List.setIfInBounds_toArray,List.set_cons_zero,List.set_cons_succ]
            refine HH.ready (rs:=[14]) (by kernel_rfl) (by simp) (by kernel_rfl) ?_;refine zu.cons (o:=_) rfl (fun K hK=>?_) zu.nil;rw [if_pos (by rfl)]
            go_simp
            go_at_call 200;refine (HROOM.out _ (HT.out.below hHeld.1.out)).mono ?_;rintro e w7 ⟨rfl,hb2⟩;have hH0:=hHeld;clear hHeld;refine hK.out _ _ (zl (zt hb2 hH0.1) (fun hB=>⟨zh hB tL t7,zh hB hgb o1,zh hB hgb o2⟩)) (fun hHeld=>?_);clear hH0 hK K
            try simp only [Act.put,List.setIfInBounds_toArray,List.set_cons_zero,List.set_cons_succ]
            clear hb2;refine HH.take 15 (oi:=_) (v:=?_) rfl (by kernel_rfl) (by kernel_rfl) (by kernel_rfl) (fun _ _ _ h=>h) (Or.inl ⟨by rfl,?_⟩) ‹_› ?_;rotate_left
            . (intro w9 hSw;(try dsimp only at hSw);go_split_ands;go_simp;try with_reducible rfl)
            try simp only [Act.put,List.getElem_toArray,List.getElem_cons_succ,List.getElem_cons_zero,List.setIfInBounds_toArray,List.set_cons_zero,List.set_cons_succ]
            refine HH.take 16 (oi:=_) (v:=?_) rfl (by kernel_rfl) (by kernel_rfl) (by kernel_rfl) (fun _ _ _ h=>h) (Or.inl ⟨by rfl,?_⟩) ‹_› ?_;rotate_left
            . (intro w9 hSw;(try dsimp only at hSw);go_split_ands;go_simp;try with_reducible rfl)
            try simp only [Act.put,List.getElem_toArray,List.getElem_cons_succ,List.getElem_cons_zero,List.setIfInBounds_toArray,List.set_cons_zero,List.set_cons_succ]
            refine HH.take 17 (oi:=_) (v:=_) rfl (by kernel_rfl) (by kernel_rfl) (by kernel_rfl) (fun _ _ _ h=>h) (Or.inr ⟨by rfl,rfl⟩) ‹_› ?_
            try simp only [Act.put,List.getElem_toArray,List.getElem_cons_succ,List.getElem_cons_zero,List.setIfInBounds_toArray,List.set_cons_zero,List.set_cons_succ]
            refine HH.take 18 (oi:=_) (v:=_) rfl (by kernel_rfl) (by kernel_rfl) (by kernel_rfl) (fun _ _ _ h=>h) (Or.inr ⟨by rfl,rfl⟩) ‹_› ?_
            try simp only [Act.put,List.getElem_toArray,List.getElem_cons_succ,List.getElem_cons_zero,List.setIfInBounds_toArray,List.set_cons_zero,List.set_cons_succ]
            refine HH.take 19 (oi:=_) (v:=_) rfl (by kernel_rfl) (by kernel_rfl) (by kernel_rfl) (fun _ _ _ h=>h) (Or.inr ⟨by rfl,rfl⟩) ‹_› ?_
            try simp only [Act.put,List.getElem_toArray,List.getElem_cons_succ,List.getElem_cons_zero,List.setIfInBounds_toArray,List.set_cons_zero,List.set_cons_succ]
            refine HH.take 20 (oi:=_) (v:=_) rfl (by kernel_rfl) (by kernel_rfl) (by kernel_rfl) (fun _ _ _ h=>h) (Or.inr ⟨by rfl,rfl⟩) ‹_› ?_
            try simp only [Act.put,List.getElem_toArray,List.getElem_cons_succ,List.getElem_cons_zero,List.setIfInBounds_toArray,List.set_cons_zero,List.set_cons_succ]
            refine HH.take 21 (oi:=_) (v:=_) rfl (by kernel_rfl) (by kernel_rfl) (by kernel_rfl) (fun _ _ _ h=>h) (Or.inr ⟨by rfl,rfl⟩) ‹_› ?_
            try simp only [Act.put,List.getElem_toArray,List.getElem_cons_succ,List.getElem_cons_zero,List.setIfInBounds_toArray,List.set_cons_zero,List.set_cons_succ]
            refine HH.take 22 (oi:=_) (v:=_) rfl (by kernel_rfl) (by kernel_rfl) (by kernel_rfl) (fun _ _ _ h=>h) (Or.inr ⟨by rfl,rfl⟩) ‹_› ?_
            try simp only [Act.put,List.getElem_toArray,List.getElem_cons_succ,List.getElem_cons_zero,List.setIfInBounds_toArray,List.set_cons_zero,List.set_cons_succ]
            refine HH.take 23 (oi:=_) (v:=_) rfl (by kernel_rfl) (by kernel_rfl) (by kernel_rfl) (fun _ _ _ h=>h) (Or.inr ⟨by rfl,rfl⟩) ‹_› ?_
            try simp only [Act.put,List.getElem_toArray,List.getElem_cons_succ,List.getElem_cons_zero,List.setIfInBounds_toArray,List.set_cons_zero,List.set_cons_succ]
            refine HH.take 24 (oi:=_) (v:=_) rfl (by kernel_rfl) (by kernel_rfl) (by kernel_rfl) (fun _ _ _ h=>h) (Or.inr ⟨by rfl,rfl⟩) ‹_› ?_
            try simp only [Act.put,List.getElem_toArray,List.getElem_cons_succ,List.getElem_cons_zero,List.setIfInBounds_toArray,List.set_cons_zero,List.set_cons_succ]
            refine HH.take 25 (oi:=_) (v:=_) rfl (by kernel_rfl) (by kernel_rfl) (by kernel_rfl) (fun _ _ _ h=>h) (Or.inr ⟨by rfl,rfl⟩) ‹_› ?_
            try simp only [Act.put,List.getElem_toArray,List.getElem_cons_succ,List.getElem_cons_zero,List.setIfInBounds_toArray,List.set_cons_zero,List.set_cons_succ]
            refine HH.take 26 (oi:=_) (v:=_) rfl (by kernel_rfl) (by kernel_rfl) (by kernel_rfl) (fun _ _ _ h=>h) (Or.inr ⟨by rfl,rfl⟩) ‹_› ?_
            try simp only [Act.put,List.getElem_toArray,List.getElem_cons_succ,List.getElem_cons_zero,List.setIfInBounds_toArray,List.set_cons_zero,List.set_cons_succ]
            refine HH.take 27 (oi:=_) (v:=_) rfl (by kernel_rfl) (by kernel_rfl) (by kernel_rfl) (fun _ _ _ h=>h) (Or.inr ⟨by rfl,rfl⟩) ‹_› ?_
            try simp only [Act.put,List.getElem_toArray,List.getElem_cons_succ,List.getElem_cons_zero,List.setIfInBounds_toArray,List.set_cons_zero,List.set_cons_succ]
            refine HH.take 28 (oi:=_) (v:=_) rfl (by kernel_rfl) (by kernel_rfl) (by kernel_rfl) (fun _ _ _ h=>h) (Or.inr ⟨by rfl,rfl⟩) ‹_› ?_
            try simp only [Act.put,List.getElem_toArray,List.getElem_cons_succ,List.getElem_cons_zero,List.setIfInBounds_toArray,List.set_cons_zero,List.set_cons_succ]
            refine HH.take 29 (oi:=_) (v:=_) rfl (by kernel_rfl) (by kernel_rfl) (by kernel_rfl) (fun _ _ _ h=>h) (Or.inr ⟨by rfl,rfl⟩) ‹_› ?_
            try simp only [Act.put,List.getElem_toArray,List.getElem_cons_succ,List.getElem_cons_zero,List.setIfInBounds_toArray,List.set_cons_zero,List.set_cons_succ]
            refine HH.take 30 (oi:=_) (v:=_) rfl (by kernel_rfl) (by kernel_rfl) (by kernel_rfl) (fun _ _ _ h=>h) (Or.inr ⟨by rfl,rfl⟩) ‹_› ?_
            try simp only [Act.put,List.getElem_toArray,List.getElem_cons_succ,List.getElem_cons_zero,List.setIfInBounds_toArray,List.set_cons_zero,List.set_cons_succ]
            refine HH.take 31 (oi:=_) (v:=_) rfl (by kernel_rfl) (by kernel_rfl) (by kernel_rfl) (fun _ _ _ h=>h) (Or.inr ⟨by rfl,rfl⟩) ‹_› ?_
            try simp only [Act.put,List.getElem_toArray,List.getElem_cons_succ,List.getElem_cons_zero,List.setIfInBounds_toArray,List.set_cons_zero,List.set_cons_succ]
            refine HH.take 32 (oi:=_) (v:=_) rfl (by kernel_rfl) (by kernel_rfl) (by kernel_rfl) (fun _ _ _ h=>h) (Or.inr ⟨by rfl,rfl⟩) ‹_› ?_
            try simp only [Act.put,List.getElem_toArray,List.getElem_cons_succ,List.getElem_cons_zero,List.setIfInBounds_toArray,List.set_cons_zero,List.set_cons_succ]
            refine HH.take 33 (oi:=_) (v:=_) rfl (by kernel_rfl) (by kernel_rfl) (by kernel_rfl) (fun _ _ _ h=>h) (Or.inr ⟨by rfl,rfl⟩) ‹_› ?_
            try simp only [Act.put,List.getElem_toArray,List.getElem_cons_succ,List.getElem_cons_zero,List.setIfInBounds_toArray,List.set_cons_zero,List.set_cons_succ]
            refine HH.take 34 (oi:=_) (v:=_) rfl (by kernel_rfl) (by kernel_rfl) (by kernel_rfl) (fun _ _ _ h=>h) (Or.inr ⟨by rfl,rfl⟩) ‹_› ?_
            try simp only [Act.put,List.getElem_toArray,List.getElem_cons_succ,List.getElem_cons_zero,List.setIfInBounds_toArray,List.set_cons_zero,List.set_cons_succ]
            refine HH.take 35 (oi:=_) (v:=_) rfl (by kernel_rfl) (by kernel_rfl) (by kernel_rfl) (fun _ _ _ h=>h) (Or.inr ⟨by rfl,rfl⟩) ‹_› ?_
            try simp only [Act.put,List.getElem_toArray,List.getElem_cons_succ,List.getElem_cons_zero,List.setIfInBounds_toArray,List.set_cons_zero,List.set_cons_succ]
            refine HH.take 36 (oi:=_) (v:=_) rfl (by kernel_rfl) (by kernel_rfl) (by kernel_rfl) (fun _ _ _ h=>h) (Or.inr ⟨by rfl,rfl⟩) ‹_› ?_
            try simp only [Act.put,List.getElem_toArray,List.getElem_cons_succ,List.getElem_cons_zero,List.setIfInBounds_toArray,List.set_cons_zero,List.set_cons_succ]
            refine HH.take 37 (oi:=_) (v:=_) rfl (by kernel_rfl) (by kernel_rfl) (by kernel_rfl) (fun _ _ _ h=>h) (Or.inr ⟨by rfl,rfl⟩) ‹_› ?_
            try simp only [Act.put,List.getElem_toArray,List.getElem_cons_succ,List.getElem_cons_zero,List.setIfInBounds_toArray,List.set_cons_zero,List.set_cons_succ]
            refine HH.take 38 (oi:=_) (v:=_) rfl (by kernel_rfl) (by kernel_rfl) (by kernel_rfl) (fun _ _ _ h=>h) (Or.inr ⟨by rfl,rfl⟩) ‹_› ?_
            try simp only [Act.put,List.getElem_toArray,List.getElem_cons_succ,List.getElem_cons_zero,List.setIfInBounds_toArray,List.set_cons_zero,List.set_cons_succ]
            refine HH.take 39 (oi:=_) (v:=_) rfl (by kernel_rfl) (by kernel_rfl) (by kernel_rfl) (fun _ _ _ h=>h) (Or.inr ⟨by rfl,rfl⟩) ‹_› ?_
            try simp only [Act.put,List.getElem_toArray,List.getElem_cons_succ,List.getElem_cons_zero,List.setIfInBounds_toArray,List.set_cons_zero,List.set_cons_succ]
            refine HH.take 40 (oi:=_) (v:=_) rfl (by kernel_rfl) (by kernel_rfl) (by kernel_rfl) (fun _ _ _ h=>h) (Or.inr ⟨by rfl,rfl⟩) ‹_› ?_
            try simp only [Act.put,List.getElem_toArray,List.getElem_cons_succ,List.getElem_cons_zero,List.setIfInBounds_toArray,List.set_cons_zero,List.set_cons_succ]
            refine HH.take 41 (oi:=_) (v:=_) rfl (by kernel_rfl) (by kernel_rfl) (by kernel_rfl) (fun _ _ _ h=>h) (Or.inr ⟨by rfl,rfl⟩) ‹_› ?_
            try simp only [Act.put,List.getElem_toArray,List.getElem_cons_succ,List.getElem_cons_zero,List.setIfInBounds_toArray,List.set_cons_zero,List.set_cons_succ]
            refine HH.take 42 (oi:=_) (v:=_) rfl (by kernel_rfl) (by kernel_rfl) (by kernel_rfl) (fun _ _ _ h=>h) (Or.inr ⟨by rfl,rfl⟩) ‹_› ?_
            try simp only [Act.put,List.getElem_toArray,List.getElem_cons_succ,List.getElem_cons_zero,List.setIfInBounds_toArray,List.set_cons_zero,List.set_cons_succ]
            refine HH.take 43 (oi:=_) (v:=_) rfl (by kernel_rfl) (by kernel_rfl) (by kernel_rfl) (fun _ _ _ h=>h) (Or.inr ⟨by rfl,rfl⟩) ‹_› ?_
            try simp only [Act.put,List.getElem_toArray,List.getElem_cons_succ,List.getElem_cons_zero,List.setIfInBounds_toArray,List.set_cons_zero,List.set_cons_succ]
            refine HH.take 44 (oi:=_) (v:=?_) rfl (by kernel_rfl) (by kernel_rfl) (by kernel_rfl) (fun _ _ _ h=>h) (Or.inl ⟨by rfl,?_⟩) ‹_› ?_;rotate_left
            . (intro w9 hSw;(try dsimp only at hSw);go_split_ands;go_simp;try with_reducible rfl)
            try simp only [Act.put,List.getElem_toArray,List.getElem_cons_succ,List.getElem_cons_zero,List.setIfInBounds_toArray,List.set_cons_zero,List.set_cons_succ]
            refine HH.take 45 (oi:=_) (v:=?_) rfl (by kernel_rfl) (by kernel_rfl) (by kernel_rfl) (fun _ _ _ h=>h) (Or.inl ⟨by rfl,?_⟩) ‹_› ?_;rotate_left
            . (intro w9 hSw;(try dsimp only at hSw);go_split_ands;go_simp;try with_reducible rfl)
            try simp only [Act.put,List.getElem_toArray,List.getElem_cons_succ,List.getElem_cons_zero,List.setIfInBounds_toArray,List.set_cons_zero,List.set_cons_succ]
            have HBY:=(hHeld.1).out;replace HT:=ze (zW.below HT.out HBY);replace HW:=eb_ HW HBY;clear HBY hHeld;refine HH.done (by kernel_rfl) ?_;simp only [List.drop_succ_cons,List.drop_zero];clear t7 o1 o2 tL hgb hbc;go_wp2_with fail;go_roundw
            case rel=>exact ⟨i+1,by omega,by go_num,(by rw [HRM.out,HEN.out];rfl),HT,HW⟩
            case measure=>simp [intOf];omega
          . have d4:((T.basic i:Int) == (rm:Int))=false:=by rw [beq_eq_false_iff_ne];omega
            by_cases h4:T.basic j=rm
            . have HEN:Hid (T.leave rm c (i+1)=some j):=T.leave_no (Int.not_le.2 HP.out) HLV.out (fun h=>by
               rcases h with h | ⟨_,h | ⟨h,_⟩⟩
               . omega
               . exact h3 h
               . exact h h4)
              have d5:((T.basic j:Int) != (rm:Int))=false:=by rw [bne_eq_false_iff_eq];omega
              clear hcc h3 h4;refine zq (S:=fun w' =>Hid (Below w6.heap.size w6 w')/\w'.cell? ⟨F.gt,7,none⟩=some (.slice (some ⟨gb,0,none⟩) m cb)/\w'.cell? ⟨gb,i,none⟩=some (.int .i64 (T.basic i:Nat))/\w'.cell? ⟨gb,j,none⟩=some (.int .i64 (T.basic j:Nat))) 3 43 46 rfl (by kernel_rfl) (by kernel_rfl) (by kernel_rfl) rfl (zl (zz w6) (fun hB=>⟨zh hB tL t7,zh hB hgb o1,zh hB hgb o2⟩)) ?_ (fun hHeld=>?_)
              . intro _ _ _ _ _ h9;exact h9
              simp only [List.take_succ_cons,List.take_zero]
              iterate 3 (refine zD (v:=?_) ?_ ?_;rotate_left;(focus (as_aux_lemma=>(intro w9 hSw;(try dsimp only at hSw);go_split_ands;go_simp;try with_reducible rfl)));try simp only [Act.put,List.setIfInBounds_toArray,List.set_cons_zero,List.set_cons_succ])
              refine zI ?_;refine HH.take 3 (oi:=_) (v:=?_) rfl (by kernel_rfl) (by kernel_rfl) (by kernel_rfl) (fun _ _ _ h=>h) (Or.inl ⟨by rfl,?_⟩) ‹_› ?_;rotate_left
              . (intro w9 hSw;(try dsimp only at hSw);go_split_ands;go_simp;try with_reducible rfl)
              try simp only [Act.put,List.getElem_toArray,List.getElem_cons_succ,List.getElem_cons_zero,List.setIfInBounds_toArray,List.set_cons_zero,List.set_cons_succ]
              refine HH.take 4 (oi:=_) (v:=?_) rfl (by kernel_rfl) (by kernel_rfl) (by kernel_rfl) (fun _ _ _ h=>h) (Or.inl ⟨by rfl,?_⟩) ‹_› ?_;rotate_left
              . (intro w9 hSw;(try dsimp only at hSw);go_split_ands;go_simp;try with_reducible rfl)
              try simp only [Act.put,List.getElem_toArray,List.getElem_cons_succ,List.getElem_cons_zero,List.setIfInBounds_toArray,List.set_cons_zero,List.set_cons_succ]
              refine HH.take 5 (oi:=_) (v:=?_) rfl (by kernel_rfl) (by kernel_rfl) (by kernel_rfl) (fun _ _ _ h=>h) (Or.inl ⟨by rfl,?_⟩) ‹_› ?_;rotate_left
              . (intro w9 hSw;(try dsimp only at hSw);go_split_ands;go_simp;try with_reducible rfl)
              try simp only [Act.put,List.getElem_toArray,List.getElem_cons_succ,List.getElem_cons_zero,List.setIfInBounds_toArray,List.set_cons_zero,List.set_cons_succ]
              refine HH.take 6 (oi:=_) (v:=?_) rfl (by kernel_rfl) (by kernel_rfl) (by kernel_rfl) (fun _ _ _ h=>h) (Or.inl ⟨by rfl,?_⟩) ‹_› ?_;rotate_left
              . (intro w9 hSw;(try dsimp only at hSw);go_split_ands;go_simp;try with_reducible rfl)
              try simp only [Act.put,List.getElem_toArray,List.getElem_cons_succ,List.getElem_cons_zero,List.setIfInBounds_toArray,List.set_cons_zero,List.set_cons_succ]
              refine HH.take 7 (oi:=_) (v:=?_) rfl (by kernel_rfl) (by kernel_rfl) (by kernel_rfl) (fun _ _ _ h=>h) (Or.inl ⟨by rfl,?_⟩) ‹_› ?_;rotate_left
              . (intro w9 hSw;(try dsimp only at hSw);go_split_ands;go_simp;try with_reducible rfl)
              try simp only [Act.put,List.getElem_toArray,List.getElem_cons_succ,List.getElem_cons_zero,List.setIfInBounds_toArray,List.set_cons_zero,List.set_cons_succ]
              refine HH.take 8 (oi:=_) (v:=?_) rfl (by kernel_rfl) (by kernel_rfl) (by kernel_rfl) (fun _ _ _ h=>h) (Or.inl ⟨by rfl,?_⟩) ‹_› ?_;rotate_left
              . (intro w9 hSw;(try dsimp only at hSw);go_split_ands;go_simp;try with_reducible rfl)
              try simp only [Act.put,List.getElem_toArray,List.getElem_cons_succ,List.getElem_cons_zero,List.setIfInBounds_toArray,List.set_cons_zero,List.set_cons_succ]
              refine HH.take 9 (oi:=_) (v:=?_) rfl (by kernel_rfl) (by kernel_rfl) (by kernel_rfl) (fun _ _ _ h=>h) (Or.inl ⟨by rfl,?_⟩) ‹_› ?_;rotate_left
              . (intro w9 hSw;(try dsimp only at hSw);go_split_ands;go_simp;try with_reducible rfl)
              try simp only [Act.put,List.getElem_toArray,List.getElem_cons_succ,List.getElem_cons_zero,List.setIfInBounds_toArray,List.set_cons_zero,List.set_cons_succ]
              refine HH.take 10 (oi:=_) (v:=?_) rfl (by kernel_rfl) (by kernel_rfl) (by kernel_rfl) (fun _ _ _ h=>h) (Or.inl ⟨by rfl,?_⟩) ‹_› ?_;rotate_left
              . (intro w9 hSw;(try dsimp only at hSw);go_split_ands;go_simp;try with_reducible rfl)
              try simp only [Act.put,List.getElem_toArray,List.getElem_cons_succ,List.getElem_cons_zero,List.setIfInBounds_toArray,List.set_cons_zero,List.set_cons_succ]
              refine HH.take 11 (oi:=_) (v:=?_) rfl (by kernel_rfl) (by kernel_rfl) (by kernel_rfl) (fun _ _ _ h=>h) (Or.inl ⟨by rfl,?_⟩) ‹_› ?_;rotate_left
              . (intro w9 hSw;(try dsimp only at hSw);go_split_ands;go_simp;try with_reducible rfl)
              try simp only [Act.put,List.getElem_toArray,List.getElem_cons_succ,List.getElem_cons_zero,List.setIfInBounds_toArray,List.set_cons_zero,List.set_cons_succ]
              refine HH.take 12 (oi:=_) (v:=?_) rfl (by kernel_rfl) (by kernel_rfl) (by kernel_rfl) (fun _ _ _ h=>h) (Or.inl ⟨by rfl,?_⟩) ‹_› ?_;rotate_left
              . (intro w9 hSw;(try dsimp only at hSw);go_split_ands;go_simp;try with_reducible rfl)
              try simp only [Act.put,List.getElem_toArray,List.getElem_cons_succ,List.getElem_cons_zero,List.setIfInBounds_toArray,List.set_cons_zero,List.set_cons_succ]
              refine HH.take 13 (oi:=_) (v:=?_) rfl (by kernel_rfl) (by kernel_rfl) (by kernel_rfl) (fun _ _ _ h=>h) (Or.inl ⟨by rfl,?_⟩) ‹_› ?_;rotate_left
              . (intro w9 hSw;(try dsimp only at hSw);go_split_ands;go_simp;try with_reducible rfl)
              try simp only [Act.put,List.getElem_toArray,List.getElem_cons_succ,List.getElem_cons_zero,List.setIfInBounds_toArray,List.set_cons_zero,List.set_cons_succ]
              refine HH.ready (rs:=[14]) (by kernel_rfl) (by simp) (by kernel_rfl) ?_;refine zu.cons (o:=_) rfl (fun K hK=>?_) zu.nil;rw [if_pos (by rfl)]
              go_simp
              go_at_call 200;refine (HROOM.out _ (HT.out.below hHeld.1.out)).mono ?_;rintro e w7 ⟨rfl,hb2⟩;have hH0:=hHeld;clear hHeld;refine hK.out _ _ (zl (zt hb2 hH0.1) (fun hB=>⟨zh hB tL t7,zh hB hgb o1,zh hB hgb o2⟩)) (fun hHeld=>?_);clear hH0 hK K
              try simp only [Act.put,List.setIfInBounds_toArray,List.set_cons_zero,List.set_cons_succ]
              clear hb2;refine HH.take 15 (oi:=_) (v:=?_) rfl (by kernel_rfl) (by kernel_rfl) (by kernel_rfl) (fun _ _ _ h=>h) (Or.inl ⟨by rfl,?_⟩) ‹_› ?_;rotate_left
              . (intro w9 hSw;(try dsimp only at hSw);go_split_ands;go_simp;try with_reducible rfl)
              try simp only [Act.put,List.getElem_toArray,List.getElem_cons_succ,List.getElem_cons_zero,List.setIfInBounds_toArray,List.set_cons_zero,List.set_cons_succ]
              refine HH.take 16 (oi:=_) (v:=?_) rfl (by kernel_rfl) (by kernel_rfl) (by kernel_rfl) (fun _ _ _ h=>h) (Or.inl ⟨by rfl,?_⟩) ‹_› ?_;rotate_left
              . (intro w9 hSw;(try dsimp only at hSw);go_split_ands;go_simp;try with_reducible rfl)
              try simp only [Act.put,List.getElem_toArray,List.getElem_cons_succ,List.getElem_cons_zero,List.setIfInBounds_toArray,List.set_cons_zero,List.set_cons_succ]
              refine HH.take 17 (oi:=_) (v:=?_) rfl (by kernel_rfl) (by kernel_rfl) (by kernel_rfl) (fun _ _ _ h=>h) (Or.inl ⟨by rfl,?_⟩) ‹_› ?_;rotate_left
              . (intro w9 hSw;(try dsimp only at hSw);go_split_ands;go_simp;try with_reducible rfl)
              try simp only [Act.put,List.getElem_toArray,List.getElem_cons_succ,List.getElem_cons_zero,List.setIfInBounds_toArray,List.set_cons_zero,List.set_cons_succ]
              refine HH.take 18 (oi:=_) (v:=?_) rfl (by kernel_rfl) (by kernel_rfl) (by kernel_rfl) (fun _ _ _ h=>h) (Or.inl ⟨by rfl,?_⟩) ‹_› ?_;rotate_left
              . (intro w9 hSw;(try dsimp only at hSw);go_split_ands;go_simp;try with_reducible rfl)
              try simp only [Act.put,List.getElem_toArray,List.getElem_cons_succ,List.getElem_cons_zero,List.setIfInBounds_toArray,List.set_cons_zero,List.set_cons_succ]
              refine HH.take 19 (oi:=_) (v:=?_) rfl (by kernel_rfl) (by kernel_rfl) (by kernel_rfl) (fun _ _ _ h=>h) (Or.inl ⟨by rfl,?_⟩) ‹_› ?_;rotate_left
              . (intro w9 hSw;(try dsimp only at hSw);go_split_ands;go_simp;try with_reducible rfl)
              try simp only [Act.put,List.getElem_toArray,List.getElem_cons_succ,List.getElem_cons_zero,List.setIfInBounds_toArray,List.set_cons_zero,List.set_cons_succ]
              refine HH.take 20 (oi:=_) (v:=?_) rfl (by kernel_rfl) (by kernel_rfl) (by kernel_rfl) (fun _ _ _ h=>h) (Or.inl ⟨by rfl,?_⟩) ‹_› ?_;rotate_left
              . (intro w9 hSw;(try dsimp only at hSw);go_split_ands;go_simp;try with_reducible rfl)
              try simp only [Act.put,List.getElem_toArray,List.getElem_cons_succ,List.getElem_cons_zero,List.setIfInBounds_toArray,List.set_cons_zero,List.set_cons_succ]
              refine HH.take 21 (oi:=_) (v:=?_) rfl (by kernel_rfl) (by kernel_rfl) (by kernel_rfl) (fun _ _ _ h=>h) (Or.inl ⟨by rfl,?_⟩) ‹_› ?_;rotate_left
              . (intro w9 hSw;(try dsimp only at hSw);go_split_ands;go_simp;try with_reducible rfl)
              try simp only [Act.put,List.getElem_toArray,List.getElem_cons_succ,List.getElem_cons_zero,List.setIfInBounds_toArray,List.set_cons_zero,List.set_cons_succ]
              refine HH.take 22 (oi:=_) (v:=?_) rfl (by kernel_rfl) (by kernel_rfl) (by kernel_rfl) (fun _ _ _ h=>h) (Or.inl ⟨by rfl,?_⟩) ‹_› ?_;rotate_left
              . (intro w9 hSw;(try dsimp only at hSw);go_split_ands;go_simp;try with_reducible rfl)
              try simp only [Act.put,List.getElem_toArray,List.getElem_cons_succ,List.getElem_cons_zero,List.setIfInBounds_toArray,List.set_cons_zero,List.set_cons_succ]
              refine HH.take 23 (oi:=_) (v:=?_) rfl (by kernel_rfl) (by kernel_rfl) (by kernel_rfl) (fun _ _ _ h=>h) (Or.inl ⟨by rfl,?_⟩) ‹_› ?_;rotate_left
              . (intro w9 hSw;(try dsimp only at hSw);go_split_ands;go_simp;try with_reducible rfl)
              try simp only [Act.put,List.getElem_toArray,List.getElem_cons_succ,List.getElem_cons_zero,List.setIfInBounds_toArray,List.set_cons_zero,List.set_cons_succ]
              refine HH.take 24 (oi:=_) (v:=?_) rfl (by kernel_rfl) (by kernel_rfl) (by kernel_rfl) (fun _ _ _ h=>h) (Or.inl ⟨by rfl,?_⟩) ‹_› ?_;rotate_left
              . (intro w9 hSw;(try dsimp only at hSw);go_split_ands;go_simp;try with_reducible rfl)
              try simp only [Act.put,List.getElem_toArray,List.getElem_cons_succ,List.getElem_cons_zero,List.setIfInBounds_toArray,List.set_cons_zero,List.set_cons_succ]
              refine HH.ready (rs:=[25]) (by kernel_rfl) (by simp) (by kernel_rfl) ?_;refine zu.cons (o:=_) rfl (fun K hK=>?_) zu.nil;rw [if_pos (by rfl)]
              go_simp
              go_at_call 200;refine (HROOM.out _ (HT.out.below hHeld.1.out)).mono ?_;rintro e w8 ⟨rfl,hb2⟩;have hH0:=hHeld;clear hHeld;refine hK.out _ _ (zl (zt hb2 hH0.1) (fun hB=>⟨zh hB tL t7,zh hB hgb o1,zh hB hgb o2⟩)) (fun hHeld=>?_);clear hH0 hK K
              try simp only [Act.put,List.setIfInBounds_toArray,List.set_cons_zero,List.set_cons_succ]
              clear hb2;refine HH.take 26 (oi:=_) (v:=?_) rfl (by kernel_rfl) (by kernel_rfl) (by kernel_rfl) (fun _ _ _ h=>h) (Or.inl ⟨by rfl,?_⟩) ‹_› ?_;rotate_left
              . (intro w9 hSw;(try dsimp only at hSw);go_split_ands;go_simp;try with_reducible rfl)
              try simp only [Act.put,List.getElem_toArray,List.getElem_cons_succ,List.getElem_cons_zero,List.setIfInBounds_toArray,List.set_cons_zero,List.set_cons_succ]
              refine HH.take 27 (oi:=_) (v:=?_) rfl (by kernel_rfl) (by kernel_rfl) (by kernel_rfl) (fun _ _ _ h=>h) (Or.inl ⟨by rfl,?_⟩) ‹_› ?_;rotate_left
              . (intro w9 hSw;(try dsimp only at hSw);go_split_ands;go_simp;try with_reducible rfl)
              try simp only [Act.put,List.getElem_toArray,List.getElem_cons_succ,List.getElem_cons_zero,List.setIfInBounds_toArray,List.set_cons_zero,List.set_cons_succ]
              refine HH.take 28 (oi:=_) (v:=_) rfl (by kernel_rfl) (by kernel_rfl) (by kernel_rfl) (fun _ _ _ h=>h) (Or.inr ⟨by rfl,rfl⟩) ‹_› ?_
              try simp only [Act.put,List.getElem_toArray,List.getElem_cons_succ,List.getElem_cons_zero,List.setIfInBounds_toArray,List.set_cons_zero,List.set_cons_succ]
              refine HH.take 29 (oi:=_) (v:=_) rfl (by kernel_rfl) (by kernel_rfl) (by kernel_rfl) (fun _ _ _ h=>h) (Or.inr ⟨by rfl,rfl⟩) ‹_› ?_
              try simp only [Act.put,List.getElem_toArray,List.getElem_cons_succ,List.getElem_cons_zero,List.setIfInBounds_toArray,List.set_cons_zero,List.set_cons_succ]
              refine HH.take 30 (oi:=_) (v:=_) rfl (by kernel_rfl) (by kernel_rfl) (by kernel_rfl) (fun _ _ _ h=>h) (Or.inr ⟨by rfl,rfl⟩) ‹_› ?_
              try simp only [Act.put,List.getElem_toArray,List.getElem_cons_succ,List.getElem_cons_zero,List.setIfInBounds_toArray,List.set_cons_zero,List.set_cons_succ]
              refine HH.take 31 (oi:=_) (v:=_) rfl (by kernel_rfl) (by kernel_rfl) (by kernel_rfl) (fun _ _ _ h=>h) (Or.inr ⟨by rfl,rfl⟩) ‹_› ?_
              try simp only [Act.put,List.getElem_toArray,List.getElem_cons_succ,List.getElem_cons_zero,List.setIfInBounds_toArray,List.set_cons_zero,List.set_cons_succ]
              refine HH.take 32 (oi:=_) (v:=_) rfl (by kernel_rfl) (by kernel_rfl) (by kernel_rfl) (fun _ _ _ h=>h) (Or.inr ⟨by rfl,rfl⟩) ‹_› ?_
              try simp only [Act.put,List.getElem_toArray,List.getElem_cons_succ,List.getElem_cons_zero,List.setIfInBounds_toArray,List.set_cons_zero,List.set_cons_succ]
              refine HH.take 33 (oi:=_) (v:=_) rfl (by kernel_rfl) (by kernel_rfl) (by kernel_rfl) (fun _ _ _ h=>h) (Or.inr ⟨by rfl,rfl⟩) ‹_› ?_
              try simp only [Act.put,List.getElem_toArray,List.getElem_cons_succ,List.getElem_cons_zero,List.setIfInBounds_toArray,List.set_cons_zero,List.set_cons_succ]
              refine HH.take 34 (oi:=_) (v:=_) rfl (by kernel_rfl) (by kernel_rfl) (by kernel_rfl) (fun _ _ _ h=>h) (Or.inr ⟨by rfl,rfl⟩) ‹_› ?_
              try simp only [Act.put,List.getElem_toArray,List.getElem_cons_succ,List.getElem_cons_zero,List.setIfInBounds_toArray,List.set_cons_zero,List.set_cons_succ]
              refine HH.take 35 (oi:=_) (v:=_) rfl (by kernel_rfl) (by kernel_rfl) (by kernel_rfl) (fun _ _ _ h=>h) (Or.inr ⟨by rfl,rfl⟩) ‹_› ?_
              try simp only [Act.put,List.getElem_toArray,List.getElem_cons_succ,List.getElem_cons_zero,List.setIfInBounds_toArray,List.set_cons_zero,List.set_cons_succ]
              refine HH.take 36 (oi:=_) (v:=_) rfl (by kernel_rfl) (by kernel_rfl) (by kernel_rfl) (fun _ _ _ h=>h) (Or.inr ⟨by rfl,rfl⟩) ‹_› ?_
              try simp only [Act.put,List.getElem_toArray,List.getElem_cons_succ,List.getElem_cons_zero,List.setIfInBounds_toArray,List.set_cons_zero,List.set_cons_succ]
              refine HH.take 37 (oi:=_) (v:=_) rfl (by kernel_rfl) (by kernel_rfl) (by kernel_rfl) (fun _ _ _ h=>h) (Or.inr ⟨by rfl,rfl⟩) ‹_› ?_
              try simp only [Act.put,List.getElem_toArray,List.getElem_cons_succ,List.getElem_cons_zero,List.setIfInBounds_toArray,List.set_cons_zero,List.set_cons_succ]
              refine HH.take 38 (oi:=_) (v:=_) rfl (by kernel_rfl) (by kernel_rfl) (by kernel_rfl) (fun _ _ _ h=>h) (Or.inr ⟨by rfl,rfl⟩) ‹_› ?_
              try simp only [Act.put,List.getElem_toArray,List.getElem_cons_succ,List.getElem_cons_zero,List.setIfInBounds_toArray,List.set_cons_zero,List.set_cons_succ]
              refine HH.take 39 (oi:=_) (v:=_) rfl (by kernel_rfl) (by kernel_rfl) (by kernel_rfl) (fun _ _ _ h=>h) (Or.inr ⟨by rfl,rfl⟩) ‹_› ?_
              try simp only [Act.put,List.getElem_toArray,List.getElem_cons_succ,List.getElem_cons_zero,List.setIfInBounds_toArray,List.set_cons_zero,List.set_cons_succ]
              refine HH.take 40 (oi:=_) (v:=_) rfl (by kernel_rfl) (by kernel_rfl) (by kernel_rfl) (fun _ _ _ h=>h) (Or.inr ⟨by rfl,rfl⟩) ‹_› ?_
              try simp only [Act.put,List.getElem_toArray,List.getElem_cons_succ,List.getElem_cons_zero,List.setIfInBounds_toArray,List.set_cons_zero,List.set_cons_succ]
              refine HH.take 41 (oi:=_) (v:=_) rfl (by kernel_rfl) (by kernel_rfl) (by kernel_rfl) (fun _ _ _ h=>h) (Or.inr ⟨by rfl,rfl⟩) ‹_› ?_
              try simp only [Act.put,List.getElem_toArray,List.getElem_cons_succ,List.getElem_cons_zero,List.setIfInBounds_toArray,List.set_cons_zero,List.set_cons_succ]
              refine HH.take 42 (oi:=_) (v:=_) rfl (by kernel_rfl) (by kernel_rfl) (by kernel_rfl) (fun _ _ _ h=>h) (Or.inr ⟨by rfl,rfl⟩) ‹_› ?_
              try simp only [Act.put,List.getElem_toArray,List.getElem_cons_succ,List.getElem_cons_zero,List.setIfInBounds_toArray,List.set_cons_zero,List.set_cons_succ]
              refine HH.take 43 (oi:=_) (v:=?_) rfl (by kernel_rfl) (by kernel_rfl) (by kernel_rfl) (fun _ _ _ h=>h) (Or.inl ⟨by rfl,?_⟩) ‹_› ?_;rotate_left
              . (intro w9 hSw;(try dsimp only at hSw);go_split_ands;go_simp;try with_reducible rfl)
              try simp only [Act.put,List.getElem_toArray,List.getElem_cons_succ,List.getElem_cons_zero,List.setIfInBounds_toArray,List.set_cons_zero,List.set_cons_succ]
              refine HH.take 44 (oi:=_) (v:=?_) rfl (by kernel_rfl) (by kernel_rfl) (by kernel_rfl) (fun _ _ _ h=>h) (Or.inl ⟨by rfl,?_⟩) ‹_› ?_;rotate_left
              . (intro w9 hSw;(try dsimp only at hSw);go_split_ands;go_simp;try with_reducible rfl)
              try simp only [Act.put,List.getElem_toArray,List.getElem_cons_succ,List.getElem_cons_zero,List.setIfInBounds_toArray,List.set_cons_zero,List.set_cons_succ]
              refine HH.take 45 (oi:=_) (v:=?_) rfl (by kernel_rfl) (by kernel_rfl) (by kernel_rfl) (fun _ _ _ h=>h) (Or.inl ⟨by rfl,?_⟩) ‹_› ?_;rotate_left
              . (intro w9 hSw;(try dsimp only at hSw);go_split_ands;go_simp;try with_reducible rfl)
              try simp only [Act.put,List.getElem_toArray,List.getElem_cons_succ,List.getElem_cons_zero,List.setIfInBounds_toArray,List.set_cons_zero,List.set_cons_succ]
              have HBY:=(hHeld.1).out;replace HT:=ze (zW.below HT.out HBY);replace HW:=eb_ HW HBY;clear HBY hHeld;refine HH.done (by kernel_rfl) ?_;simp only [List.drop_succ_cons,List.drop_zero];clear t7 o1 o2 tL hgb hbc;go_wp2_with fail;go_roundw
              case rel=>exact ⟨i+1,by omega,by go_num,(by rw [HRM.out,HEN.out];rfl),HT,HW⟩
              case measure=>simp [intOf];omega
            . have d5:((T.basic j:Int) != (rm:Int))=true:=by rw [bne_iff_ne];omega
              by_cases h5:T.basic i<T.basic j
              . have HEN:Hid (T.leave rm c (i+1)=some i):=T.leave_yes (Int.not_le.2 HP.out) HLV.out (.inr ⟨hcc,.inr ⟨h4,h5⟩⟩)
                have d6:decide ((T.basic i:Int)<(T.basic j:Int))=true:=by rw [decide_eq_true_iff];omega
                have d7:decide (T.basic i<T.basic j)=true:=decide_eq_true h5;clear hcc h3 h4;refine zq (S:=fun w' =>Hid (Below w6.heap.size w6 w')/\w'.cell? ⟨F.gt,7,none⟩=some (.slice (some ⟨gb,0,none⟩) m cb)/\w'.cell? ⟨gb,i,none⟩=some (.int .i64 (T.basic i:Nat))/\w'.cell? ⟨gb,j,none⟩=some (.int .i64 (T.basic j:Nat))) 3 43 46 rfl (by kernel_rfl) (by kernel_rfl) (by kernel_rfl) rfl (zl (zz w6) (fun hB=>⟨zh hB tL t7,zh hB hgb o1,zh hB hgb o2⟩)) ?_ (fun hHeld=>?_)
                . intro _ _ _ _ _ h9;exact h9
                simp only [List.take_succ_cons,List.take_zero]
                iterate 3 (refine zD (v:=?_) ?_ ?_;rotate_left;(focus (as_aux_lemma=>(intro w9 hSw;(try dsimp only at hSw);go_split_ands;go_simp;try with_reducible rfl)));try simp only [Act.put,List.setIfInBounds_toArray,List.set_cons_zero,List.set_cons_succ])
                refine zI ?_;refine HH.take 3 (oi:=_) (v:=?_) rfl (by kernel_rfl) (by kernel_rfl) (by kernel_rfl) (fun _ _ _ h=>h) (Or.inl ⟨by rfl,?_⟩) ‹_› ?_;rotate_left
                . (intro w9 hSw;(try dsimp only at hSw);go_split_ands;go_simp;try with_reducible rfl)
                try simp only [Act.put,List.getElem_toArray,List.getElem_cons_succ,List.getElem_cons_zero,List.setIfInBounds_toArray,List.set_cons_zero,List.set_cons_succ]
                refine HH.take 4 (oi:=_) (v:=?_) rfl (by kernel_rfl) (by kernel_rfl) (by kernel_rfl) (fun _ _ _ h=>h) (Or.inl ⟨by rfl,?_⟩) ‹_› ?_;rotate_left
                . (intro w9 hSw;(try dsimp only at hSw);go_split_ands;go_simp;try with_reducible rfl)
                try simp only [Act.put,List.getElem_toArray,List.getElem_cons_succ,List.getElem_cons_zero,List.setIfInBounds_toArray,List.set_cons_zero,List.set_cons_succ]
                refine HH.take 5 (oi:=_) (v:=?_) rfl (by kernel_rfl) (by kernel_rfl) (by kernel_rfl) (fun _ _ _ h=>h) (Or.inl ⟨by rfl,?_⟩) ‹_› ?_;rotate_left
                . (intro w9 hSw;(try dsimp only at hSw);go_split_ands;go_simp;try with_reducible rfl)
                try simp only [Act.put,List.getElem_toArray,List.getElem_cons_succ,List.getElem_cons_zero,List.setIfInBounds_toArray,List.set_cons_zero,List.set_cons_succ]
                refine HH.take 6 (oi:=_) (v:=?_) rfl (by kernel_rfl) (by kernel_rfl) (by kernel_rfl) (fun _ _ _ h=>h) (Or.inl ⟨by rfl,?_⟩) ‹_› ?_;rotate_left
                . (intro w9 hSw;(try dsimp only at hSw);go_split_ands;go_simp;try with_reducible rfl)
                try simp only [Act.put,List.getElem_toArray,List.getElem_cons_succ,List.getElem_cons_zero,List.setIfInBounds_toArray,List.set_cons_zero,List.set_cons_succ]
                refine HH.take 7 (oi:=_) (v:=?_) rfl (by kernel_rfl) (by kernel_rfl) (by kernel_rfl) (fun _ _ _ h=>h) (Or.inl ⟨by rfl,?_⟩) ‹_› ?_;rotate_left
                . (intro w9 hSw;(try dsimp only at hSw);go_split_ands;go_simp;try with_reducible rfl)
                try simp only [Act.put,List.getElem_toArray,List.getElem_cons_succ,List.getElem_cons_zero,List.setIfInBounds_toArray,List.set_cons_zero,List.set_cons_succ]
                refine HH.take 8 (oi:=_) (v:=?_) rfl (by kernel_rfl) (by kernel_rfl) (by kernel_rfl) (fun _ _ _ h=>h) (Or.inl ⟨by rfl,?_⟩) ‹_› ?_;rotate_left
                . (intro w9 hSw;(try dsimp only at hSw);go_split_ands;go_simp;try with_reducible rfl)
                try simp only [Act.put,List.getElem_toArray,List.getElem_cons_succ,List.getElem_cons_zero,List.setIfInBounds_toArray,List.set_cons_zero,List.set_cons_succ]
                refine HH.take 9 (oi:=_) (v:=?_) rfl (by kernel_rfl) (by kernel_rfl) (by kernel_rfl) (fun _ _ _ h=>h) (Or.inl ⟨by rfl,?_⟩) ‹_› ?_;rotate_left
                . (intro w9 hSw;(try dsimp only at hSw);go_split_ands;go_simp;try with_reducible rfl)
                try simp only [Act.put,List.getElem_toArray,List.getElem_cons_succ,List.getElem_cons_zero,List.setIfInBounds_toArray,List.set_cons_zero,List.set_cons_succ]
                refine HH.take 10 (oi:=_) (v:=?_) rfl (by kernel_rfl) (by kernel_rfl) (by kernel_rfl) (fun _ _ _ h=>h) (Or.inl ⟨by rfl,?_⟩) ‹_› ?_;rotate_left
                . (intro w9 hSw;(try dsimp only at hSw);go_split_ands;go_simp;try with_reducible rfl)
                try simp only [Act.put,List.getElem_toArray,List.getElem_cons_succ,List.getElem_cons_zero,List.setIfInBounds_toArray,List.set_cons_zero,List.set_cons_succ]
                refine HH.take 11 (oi:=_) (v:=?_) rfl (by kernel_rfl) (by kernel_rfl) (by kernel_rfl) (fun _ _ _ h=>h) (Or.inl ⟨by rfl,?_⟩) ‹_› ?_;rotate_left
                . (intro w9 hSw;(try dsimp only at hSw);go_split_ands;go_simp;try with_reducible rfl)
                try simp only [Act.put,List.getElem_toArray,List.getElem_cons_succ,List.getElem_cons_zero,List.setIfInBounds_toArray,List.set_cons_zero,List.set_cons_succ]
                refine HH.take 12 (oi:=_) (v:=?_) rfl (by kernel_rfl) (by kernel_rfl) (by kernel_rfl) (fun _ _ _ h=>h) (Or.inl ⟨by rfl,?_⟩) ‹_› ?_;rotate_left
                . (intro w9 hSw;(try dsimp only at hSw);go_split_ands;go_simp;try with_reducible rfl)
                try simp only [Act.put,List.getElem_toArray,List.getElem_cons_succ,List.getElem_cons_zero,List.setIfInBounds_toArray,List.set_cons_zero,List.set_cons_succ]
                refine HH.take 13 (oi:=_) (v:=?_) rfl (by kernel_rfl) (by kernel_rfl) (by kernel_rfl) (fun _ _ _ h=>h) (Or.inl ⟨by rfl,?_⟩) ‹_› ?_;rotate_left
                . (intro w9 hSw;(try dsimp only at hSw);go_split_ands;go_simp;try with_reducible rfl)
                try simp only [Act.put,List.getElem_toArray,List.getElem_cons_succ,List.getElem_cons_zero,List.setIfInBounds_toArray,List.set_cons_zero,List.set_cons_succ]
                refine HH.ready (rs:=[14]) (by kernel_rfl) (by simp) (by kernel_rfl) ?_;refine zu.cons (o:=_) rfl (fun K hK=>?_) zu.nil;rw [if_pos (by rfl)]
                go_simp
                go_at_call 200;refine (HROOM.out _ (HT.out.below hHeld.1.out)).mono ?_;rintro e w7 ⟨rfl,hb2⟩;have hH0:=hHeld;clear hHeld;refine hK.out _ _ (zl (zt hb2 hH0.1) (fun hB=>⟨zh hB tL t7,zh hB hgb o1,zh hB hgb o2⟩)) (fun hHeld=>?_);clear hH0 hK K
                try simp only [Act.put,List.setIfInBounds_toArray,List.set_cons_zero,List.set_cons_succ]
                clear hb2;refine HH.take 15 (oi:=_) (v:=?_) rfl (by kernel_rfl) (by kernel_rfl) (by kernel_rfl) (fun _ _ _ h=>h) (Or.inl ⟨by rfl,?_⟩) ‹_› ?_;rotate_left
                . (intro w9 hSw;(try dsimp only at hSw);go_split_ands;go_simp;try with_reducible rfl)
                try simp only [Act.put,List.getElem_toArray,List.getElem_cons_succ,List.getElem_cons_zero,List.setIfInBounds_toArray,List.set_cons_zero,List.set_cons_succ]
                refine HH.take 16 (oi:=_) (v:=?_) rfl (by kernel_rfl) (by kernel_rfl) (by kernel_rfl) (fun _ _ _ h=>h) (Or.inl ⟨by rfl,?_⟩) ‹_› ?_;rotate_left
                . (intro w9 hSw;(try dsimp only at hSw);go_split_ands;go_simp;try with_reducible rfl)
                try simp only [Act.put,List.getElem_toArray,List.getElem_cons_succ,List.getElem_cons_zero,List.setIfInBounds_toArray,List.set_cons_zero,List.set_cons_succ]
                refine HH.take 17 (oi:=_) (v:=?_) rfl (by kernel_rfl) (by kernel_rfl) (by kernel_rfl) (fun _ _ _ h=>h) (Or.inl ⟨by rfl,?_⟩) ‹_› ?_;rotate_left
                . (intro w9 hSw;(try dsimp only at hSw);go_split_ands;go_simp;try with_reducible rfl)
                try simp only [Act.put,List.getElem_toArray,List.getElem_cons_succ,List.getElem_cons_zero,List.setIfInBounds_toArray,List.set_cons_zero,List.set_cons_succ]
                refine HH.take 18 (oi:=_) (v:=?_) rfl (by kernel_rfl) (by kernel_rfl) (by kernel_rfl) (fun _ _ _ h=>h) (Or.inl ⟨by rfl,?_⟩) ‹_› ?_;rotate_left
                . (intro w9 hSw;(try dsimp only at hSw);go_split_ands;go_simp;try with_reducible rfl)
                try simp only [Act.put,List.getElem_toArray,List.getElem_cons_succ,List.getElem_cons_zero,List.setIfInBounds_toArray,List.set_cons_zero,List.set_cons_succ]
                refine HH.take 19 (oi:=_) (v:=?_) rfl (by kernel_rfl) (by kernel_rfl) (by kernel_rfl) (fun _ _ _ h=>h) (Or.inl ⟨by rfl,?_⟩) ‹_› ?_;rotate_left
                . (intro w9 hSw;(try dsimp only at hSw);go_split_ands;go_simp;try with_reducible rfl)
                try simp only [Act.put,List.getElem_toArray,List.getElem_cons_succ,List.getElem_cons_zero,List.setIfInBounds_toArray,List.set_cons_zero,List.set_cons_succ]
                refine HH.take 20 (oi:=_) (v:=?_) rfl (by kernel_rfl) (by kernel_rfl) (by kernel_rfl) (fun _ _ _ h=>h) (Or.inl ⟨by rfl,?_⟩) ‹_› ?_;rotate_left
                . (intro w9 hSw;(try dsimp only at hSw);go_split_ands;go_simp;try with_reducible rfl)
                try simp only [Act.put,List.getElem_toArray,List.getElem_cons_succ,List.getElem_cons_zero,List.setIfInBounds_toArray,List.set_cons_zero,List.set_cons_succ]
                refine HH.take 21 (oi:=_) (v:=?_) rfl (by kernel_rfl) (by kernel_rfl) (by kernel_rfl) (fun _ _ _ h=>h) (Or.inl ⟨by rfl,?_⟩) ‹_› ?_;rotate_left
                . (intro w9 hSw;(try dsimp only at hSw);go_split_ands;go_simp;try with_reducible rfl)
                try simp only [Act.put,List.getElem_toArray,List.getElem_cons_succ,List.getElem_cons_zero,List.setIfInBounds_toArray,List.set_cons_zero,List.set_cons_succ]
                refine HH.take 22 (oi:=_) (v:=?_) rfl (by kernel_rfl) (by kernel_rfl) (by kernel_rfl) (fun _ _ _ h=>h) (Or.inl ⟨by rfl,?_⟩) ‹_› ?_;rotate_left
                . (intro w9 hSw;(try dsimp only at hSw);go_split_ands;go_simp;try with_reducible rfl)
                try simp only [Act.put,List.getElem_toArray,List.getElem_cons_succ,List.getElem_cons_zero,List.setIfInBounds_toArray,List.set_cons_zero,List.set_cons_succ]
                refine HH.take 23 (oi:=_) (v:=?_) rfl (by kernel_rfl) (by kernel_rfl) (by kernel_rfl) (fun _ _ _ h=>h) (Or.inl ⟨by rfl,?_⟩) ‹_› ?_;rotate_left
                . (intro w9 hSw;(try dsimp only at hSw);go_split_ands;go_simp;try with_reducible rfl)
                try simp only [Act.put,List.getElem_toArray,List.getElem_cons_succ,List.getElem_cons_zero,List.setIfInBounds_toArray,List.set_cons_zero,List.set_cons_succ]
                refine HH.take 24 (oi:=_) (v:=?_) rfl (by kernel_rfl) (by kernel_rfl) (by kernel_rfl) (fun _ _ _ h=>h) (Or.inl ⟨by rfl,?_⟩) ‹_› ?_;rotate_left
                . (intro w9 hSw;(try dsimp only at hSw);go_split_ands;go_simp;try with_reducible rfl)
                try simp only [Act.put,List.getElem_toArray,List.getElem_cons_succ,List.getElem_cons_zero,List.setIfInBounds_toArray,List.set_cons_zero,List.set_cons_succ]
                refine HH.ready (rs:=[25]) (by kernel_rfl) (by simp) (by kernel_rfl) ?_;refine zu.cons (o:=_) rfl (fun K hK=>?_) zu.nil;rw [if_pos (by rfl)]
                go_simp
                go_at_call 200;refine (HROOM.out _ (HT.out.below hHeld.1.out)).mono ?_;rintro e w8 ⟨rfl,hb2⟩;have hH0:=hHeld;clear hHeld;refine hK.out _ _ (zl (zt hb2 hH0.1) (fun hB=>⟨zh hB tL t7,zh hB hgb o1,zh hB hgb o2⟩)) (fun hHeld=>?_);clear hH0 hK K
                try simp only [Act.put,List.setIfInBounds_toArray,List.set_cons_zero,List.set_cons_succ]
                clear hb2;refine HH.take 26 (oi:=_) (v:=?_) rfl (by kernel_rfl) (by kernel_rfl) (by kernel_rfl) (fun _ _ _ h=>h) (Or.inl ⟨by rfl,?_⟩) ‹_› ?_;rotate_left
                . (intro w9 hSw;(try dsimp only at hSw);go_split_ands;go_simp;try with_reducible rfl)
                try simp only [Act.put,List.getElem_toArray,List.getElem_cons_succ,List.getElem_cons_zero,List.setIfInBounds_toArray,List.set_cons_zero,List.set_cons_succ]
                refine HH.take 27 (oi:=_) (v:=?_) rfl (by kernel_rfl) (by kernel_rfl) (by kernel_rfl) (fun _ _ _ h=>h) (Or.inl ⟨by rfl,?_⟩) ‹_› ?_;rotate_left
                . (intro w9 hSw;(try dsimp only at hSw);go_split_ands;go_simp;try with_reducible rfl)
                try simp only [Act.put,List.getElem_toArray,List.getElem_cons_succ,List.getElem_cons_zero,List.setIfInBounds_toArray,List.set_cons_zero,List.set_cons_succ]
                refine HH.take 28 (oi:=_) (v:=?_) rfl (by kernel_rfl) (by kernel_rfl) (by kernel_rfl) (fun _ _ _ h=>h) (Or.inl ⟨by rfl,?_⟩) ‹_› ?_;rotate_left
                . (intro w9 hSw;(try dsimp only at hSw);go_split_ands;go_simp;try with_reducible rfl)
                try simp only [Act.put,List.getElem_toArray,List.getElem_cons_succ,List.getElem_cons_zero,List.setIfInBounds_toArray,List.set_cons_zero,List.set_cons_succ]
                refine HH.take 29 (oi:=_) (v:=?_) rfl (by kernel_rfl) (by kernel_rfl) (by kernel_rfl) (fun _ _ _ h=>h) (Or.inl ⟨by rfl,?_⟩) ‹_› ?_;rotate_left
                . (intro w9 hSw;(try dsimp only at hSw);go_split_ands;go_simp;try with_reducible rfl)
                try simp only [Act.put,List.getElem_toArray,List.getElem_cons_succ,List.getElem_cons_zero,List.setIfInBounds_toArray,List.set_cons_zero,List.set_cons_succ]
                refine HH.take 30 (oi:=_) (v:=?_) rfl (by kernel_rfl) (by kernel_rfl) (by kernel_rfl) (fun _ _ _ h=>h) (Or.inl ⟨by rfl,?_⟩) ‹_› ?_;rotate_left
                . (intro w9 hSw;(try dsimp only at hSw);go_split_ands;go_simp;try with_reducible rfl)
                try simp only [Act.put,List.getElem_toArray,List.getElem_cons_succ,List.getElem_cons_zero,List.setIfInBounds_toArray,List.set_cons_zero,List.set_cons_succ]
                refine HH.take 31 (oi:=_) (v:=?_) rfl (by kernel_rfl) (by kernel_rfl) (by kernel_rfl) (fun _ _ _ h=>h) (Or.inl ⟨by rfl,?_⟩) ‹_› ?_;rotate_left
                . (intro w9 hSw;(try dsimp only at hSw);go_split_ands;go_simp;try with_reducible rfl)
                try simp only [Act.put,List.getElem_toArray,List.getElem_cons_succ,List.getElem_cons_zero,List.setIfInBounds_toArray,List.set_cons_zero,List.set_cons_succ]
                refine HH.take 32 (oi:=_) (v:=?_) rfl (by kernel_rfl) (by kernel_rfl) (by kernel_rfl) (fun _ _ _ h=>h) (Or.inl ⟨by rfl,?_⟩) ‹_› ?_;rotate_left
                . (intro w9 hSw;(try dsimp only at hSw);go_split_ands;go_simp;try with_reducible rfl)
                try simp only [Act.put,List.getElem_toArray,List.getElem_cons_succ,List.getElem_cons_zero,List.setIfInBounds_toArray,List.set_cons_zero,List.set_cons_succ]
                refine HH.take 33 (oi:=_) (v:=?_) rfl (by kernel_rfl) (by kernel_rfl) (by kernel_rfl) (fun _ _ _ h=>h) (Or.inl ⟨by rfl,?_⟩) ‹_› ?_;rotate_left
                . (intro w9 hSw;(try dsimp only at hSw);go_split_ands;go_simp;try with_reducible rfl)
                try simp only [Act.put,List.getElem_toArray,List.getElem_cons_succ,List.getElem_cons_zero,List.setIfInBounds_toArray,List.set_cons_zero,List.set_cons_succ]
                refine HH.take 34 (oi:=_) (v:=?_) rfl (by kernel_rfl) (by kernel_rfl) (by kernel_rfl) (fun _ _ _ h=>h) (Or.inl ⟨by rfl,?_⟩) ‹_› ?_;rotate_left
                . (intro w9 hSw;(try dsimp only at hSw);go_split_ands;go_simp;try with_reducible rfl)
                try simp only [Act.put,List.getElem_toArray,List.getElem_cons_succ,List.getElem_cons_zero,List.setIfInBounds_toArray,List.set_cons_zero,List.set_cons_succ]
                refine HH.take 35 (oi:=_) (v:=?_) rfl (by kernel_rfl) (by kernel_rfl) (by kernel_rfl) (fun _ _ _ h=>h) (Or.inl ⟨by rfl,?_⟩) ‹_› ?_;rotate_left
                . (intro w9 hSw;(try dsimp only at hSw);go_split_ands;go_simp;try with_reducible rfl)
                try simp only [Act.put,List.getElem_toArray,List.getElem_cons_succ,List.getElem_cons_zero,List.setIfInBounds_toArray,List.set_cons_zero,List.set_cons_succ]
                refine HH.take 36 (oi:=_) (v:=?_) rfl (by kernel_rfl) (by kernel_rfl) (by kernel_rfl) (fun _ _ _ h=>h) (Or.inl ⟨by rfl,?_⟩) ‹_› ?_;rotate_left
                . (intro w9 hSw;(try dsimp only at hSw);go_split_ands;go_simp;try with_reducible rfl)
                try simp only [Act.put,List.getElem_toArray,List.getElem_cons_succ,List.getElem_cons_zero,List.setIfInBounds_toArray,List.set_cons_zero,List.set_cons_succ]
                refine HH.take 37 (oi:=_) (v:=?_) rfl (by kernel_rfl) (by kernel_rfl) (by kernel_rfl) (fun _ _ _ h=>h) (Or.inl ⟨by rfl,?_⟩) ‹_› ?_;rotate_left
                . (intro w9 hSw;(try dsimp only at hSw);go_split_ands;go_simp;try with_reducible rfl)
                try simp only [Act.put,List.getElem_toArray,List.getElem_cons_succ,List.getElem_cons_zero,List.setIfInBounds_toArray,List.set_cons_zero,List.set_cons_succ]
                refine HH.take 38 (oi:=_) (v:=?_) rfl (by kernel_rfl) (by kernel_rfl) (by kernel_rfl) (fun _ _ _ h=>h) (Or.inl ⟨by rfl,?_⟩) ‹_› ?_;rotate_left
                . (intro w9 hSw;(try dsimp only at hSw);go_split_ands;go_simp;try with_reducible rfl)
                try simp only [Act.put,List.getElem_toArray,List.getElem_cons_succ,List.getElem_cons_zero,List.setIfInBounds_toArray,List.set_cons_zero,List.set_cons_succ]
                refine HH.take 39 (oi:=_) (v:=?_) rfl (by kernel_rfl) (by kernel_rfl) (by kernel_rfl) (fun _ _ _ h=>h) (Or.inl ⟨by rfl,?_⟩) ‹_› ?_;rotate_left
                . (intro w9 hSw;(try dsimp only at hSw);go_split_ands;go_simp;try with_reducible rfl)
                try simp only [Act.put,List.getElem_toArray,List.getElem_cons_succ,List.getElem_cons_zero,List.setIfInBounds_toArray,List.set_cons_zero,List.set_cons_succ]
                refine HH.take 40 (oi:=_) (v:=?_) rfl (by kernel_rfl) (by kernel_rfl) (by kernel_rfl) (fun _ _ _ h=>h) (Or.inl ⟨by rfl,?_⟩) ‹_› ?_;rotate_left
                . (intro w9 hSw;(try dsimp only at hSw);go_split_ands;go_simp;try with_reducible rfl)
                try simp only [Act.put,List.getElem_toArray,List.getElem_cons_succ,List.getElem_cons_zero,List.setIfInBounds_toArray,List.set_cons_zero,List.set_cons_succ]
                refine HH.take 41 (oi:=_) (v:=?_) rfl (by kernel_rfl) (by kernel_rfl) (by kernel_rfl) (fun _ _ _ h=>h) (Or.inl ⟨by rfl,?_⟩) ‹_› ?_;rotate_left
                . (intro w9 hSw;(try dsimp only at hSw);go_split_ands;go_simp;try with_reducible rfl)
                try simp only [Act.put,List.getElem_toArray,List.getElem_cons_succ,List.getElem_cons_zero,List.setIfInBounds_toArray,List.set_cons_zero,List.set_cons_succ]
                refine HH.take 42 (oi:=_) (v:=?_) rfl (by kernel_rfl) (by kernel_rfl) (by kernel_rfl) (fun _ _ _ h=>h) (Or.inl ⟨by rfl,?_⟩) ‹_› ?_;rotate_left
                . (intro w9 hSw;(try dsimp only at hSw);go_split_ands;go_simp;try with_reducible rfl)
                try simp only [Act.put,List.getElem_toArray,List.getElem_cons_succ,List.getElem_cons_zero,List.setIfInBounds_toArray,List.set_cons_zero,List.set_cons_succ]
                refine HH.take 43 (oi:=_) (v:=?_) rfl (by kernel_rfl) (by kernel_rfl) (by kernel_rfl) (fun _ _ _ h=>h) (Or.inl ⟨by rfl,?_⟩) ‹_› ?_;rotate_left
                . (intro w9 hSw;(try dsimp only at hSw);go_split_ands;go_simp;try with_reducible rfl)
                try simp only [Act.put,List.getElem_toArray,List.getElem_cons_succ,List.getElem_cons_zero,List.setIfInBounds_toArray,List.set_cons_zero,List.set_cons_succ]
                refine HH.take 44 (oi:=_) (v:=?_) rfl (by kernel_rfl) (by kernel_rfl) (by kernel_rfl) (fun _ _ _ h=>h) (Or.inl ⟨by rfl,?_⟩) ‹_› ?_;rotate_left
                . (intro w9 hSw;(try dsimp only at hSw);go_split_ands;go_simp;try with_reducible rfl)
                try simp only [Act.put,List.getElem_toArray,List.getElem_cons_succ,List.getElem_cons_zero,List.setIfInBounds_toArray,List.set_cons_zero,List.set_cons_succ]
                refine HH.take 45 (oi:=_) (v:=?_) rfl (by kernel_rfl) (by kernel_rfl) (by kernel_rfl) (fun _ _ _ h=>h) (Or.inl ⟨by rfl,?_⟩) ‹_› ?_;rotate_left
                . (intro w9 hSw;(try dsimp only at hSw);go_split_ands;go_simp;try with_reducible rfl)
                try simp only [Act.put,List.getElem_toArray,List.getElem_cons_succ,List.getElem_cons_zero,List.setIfInBounds_toArray,List.set_cons_zero,List.set_cons_succ]
                have HBY:=(hHeld.1).out;replace HT:=ze (zW.below HT.out HBY);replace HW:=eb_ HW HBY;clear HBY hHeld;refine HH.done (by kernel_rfl) ?_;simp only [List.drop_succ_cons,List.drop_zero];clear t7 o1 o2 tL hgb hbc;go_wp2_with fail;go_roundw
                case rel=>exact ⟨i+1,by omega,by go_num,(by rw [HRM.out,HEN.out];rfl),HT,HW⟩
                case measure=>simp [intOf];omega
              . have HEN:Hid (T.leave rm c (i+1)=some j):=T.leave_no (Int.not_le.2 HP.out) HLV.out (fun h=>by
                 rcases h with h | ⟨_,h | ⟨_,h⟩⟩
                 . omega
                 . exact h3 h
                 . exact h5 h)
                have d6:decide ((T.basic i:Int)<(T.basic j:Int))=false:=by rw [decide_eq_false_iff_not];omega
                have d7:decide (T.basic i<T.basic j)=false:=decide_eq_false h5;clear hcc h3 h4;refine zq (S:=fun w' =>Hid (Below w6.heap.size w6 w')/\w'.cell? ⟨F.gt,7,none⟩=some (.slice (some ⟨gb,0,none⟩) m cb)/\w'.cell? ⟨gb,i,none⟩=some (.int .i64 (T.basic i:Nat))/\w'.cell? ⟨gb,j,none⟩=some (.int .i64 (T.basic j:Nat))) 3 43 46 rfl (by kernel_rfl) (by kernel_rfl) (by kernel_rfl) rfl (zl (zz w6) (fun hB=>⟨zh hB tL t7,zh hB hgb o1,zh hB hgb o2⟩)) ?_ (fun hHeld=>?_)
                . intro _ _ _ _ _ h9;exact h9
                simp only [List.take_succ_cons,List.take_zero]
                iterate 3 (refine zD (v:=?_) ?_ ?_;rotate_left;(focus (as_aux_lemma=>(intro w9 hSw;(try dsimp only at hSw);go_split_ands;go_simp;try with_reducible rfl)));try simp only [Act.put,List.setIfInBounds_toArray,List.set_cons_zero,List.set_cons_succ])
                refine zI ?_;refine HH.take 3 (oi:=_) (v:=?_) rfl (by kernel_rfl) (by kernel_rfl) (by kernel_rfl) (fun _ _ _ h=>h) (Or.inl ⟨by rfl,?_⟩) ‹_› ?_;rotate_left
                . (intro w9 hSw;(try dsimp only at hSw);go_split_ands;go_simp;try with_reducible rfl)
                try simp only [Act.put,List.getElem_toArray,List.getElem_cons_succ,List.getElem_cons_zero,List.setIfInBounds_toArray,List.set_cons_zero,List.set_cons_succ]
                refine HH.take 4 (oi:=_) (v:=?_) rfl (by kernel_rfl) (by kernel_rfl) (by kernel_rfl) (fun _ _ _ h=>h) (Or.inl ⟨by rfl,?_⟩) ‹_› ?_;rotate_left
                . (intro w9 hSw;(try dsimp only at hSw);go_split_ands;go_simp;try with_reducible rfl)
                try simp only [Act.put,List.getElem_toArray,List.getElem_cons_succ,List.getElem_cons_zero,List.setIfInBounds_toArray,List.set_cons_zero,List.set_cons_succ]
                refine HH.take 5 (oi:=_) (v:=?_) rfl (by kernel_rfl) (by kernel_rfl) (by kernel_rfl) (fun _ _ _ h=>h) (Or.inl ⟨by rfl,?_⟩) ‹_› ?_;rotate_left
                . (intro w9 hSw;(try dsimp only at hSw);go_split_ands;go_simp;try with_reducible rfl)
                try simp only [Act.put,List.getElem_toArray,List.getElem_cons_succ,List.getElem_cons_zero,List.setIfInBounds_toArray,List.set_cons_zero,List.set_cons_succ]
                refine HH.take 6 (oi:=_) (v:=?_) rfl (by kernel_rfl) (by kernel_rfl) (by kernel_rfl) (fun _ _ _ h=>h) (Or.inl ⟨by rfl,?_⟩) ‹_› ?_;rotate_left
                . (intro w9 hSw;(try dsimp only at hSw);go_split_ands;go_simp;try with_reducible rfl)
                try simp only [Act.put,List.getElem_toArray,List.getElem_cons_succ,List.getElem_cons_zero,List.setIfInBounds_toArray,List.set_cons_zero,List.set_cons_succ]
                refine HH.take 7 (oi:=_) (v:=?_) rfl (by kernel_rfl) (by kernel_rfl) (by kernel_rfl) (fun _ _ _ h=>h) (Or.inl ⟨by rfl,?_⟩) ‹_› ?_;rotate_left
                . (intro w9 hSw;(try dsimp only at hSw);go_split_ands;go_simp;try with_reducible rfl)
                try simp only [Act.put,List.getElem_toArray,List.getElem_cons_succ,List.getElem_cons_zero,List.setIfInBounds_toArray,List.set_cons_zero,List.set_cons_succ]
                refine HH.take 8 (oi:=_) (v:=?_) rfl (by kernel_rfl) (by kernel_rfl) (by kernel_rfl) (fun _ _ _ h=>h) (Or.inl ⟨by rfl,?_⟩) ‹_› ?_;rotate_left
                . (intro w9 hSw;(try dsimp only at hSw);go_split_ands;go_simp;try with_reducible rfl)
                try simp only [Act.put,List.getElem_toArray,List.getElem_cons_succ,List.getElem_cons_zero,List.setIfInBounds_toArray,List.set_cons_zero,List.set_cons_succ]
                refine HH.take 9 (oi:=_) (v:=?_) rfl (by kernel_rfl) (by kernel_rfl) (by kernel_rfl) (fun _ _ _ h=>h) (Or.inl ⟨by rfl,?_⟩) ‹_› ?_;rotate_left
                . (intro w9 hSw;(try dsimp only at hSw);go_split_ands;go_simp;try with_reducible rfl)
                try simp only [Act.put,List.getElem_toArray,List.getElem_cons_succ,List.getElem_cons_zero,List.setIfInBounds_toArray,List.set_cons_zero,List.set_cons_succ]
                refine HH.take 10 (oi:=_) (v:=?_) rfl (by kernel_rfl) (by kernel_rfl) (by kernel_rfl) (fun _ _ _ h=>h) (Or.inl ⟨by rfl,?_⟩) ‹_› ?_;rotate_left
                . (intro w9 hSw;(try dsimp only at hSw);go_split_ands;go_simp;try with_reducible rfl)
                try simp only [Act.put,List.getElem_toArray,List.getElem_cons_succ,List.getElem_cons_zero,List.setIfInBounds_toArray,List.set_cons_zero,List.set_cons_succ]
                refine HH.take 11 (oi:=_) (v:=?_) rfl (by kernel_rfl) (by kernel_rfl) (by kernel_rfl) (fun _ _ _ h=>h) (Or.inl ⟨by rfl,?_⟩) ‹_› ?_;rotate_left
                . (intro w9 hSw;(try dsimp only at hSw);go_split_ands;go_simp;try with_reducible rfl)
                try simp only [Act.put,List.getElem_toArray,List.getElem_cons_succ,List.getElem_cons_zero,List.setIfInBounds_toArray,List.set_cons_zero,List.set_cons_succ]
                refine HH.take 12 (oi:=_) (v:=?_) rfl (by kernel_rfl) (by kernel_rfl) (by kernel_rfl) (fun _ _ _ h=>h) (Or.inl ⟨by rfl,?_⟩) ‹_› ?_;rotate_left
                . (intro w9 hSw;(try dsimp only at hSw);go_split_ands;go_simp;try with_reducible rfl)
                try simp only [Act.put,List.getElem_toArray,List.getElem_cons_succ,List.getElem_cons_zero,List.setIfInBounds_toArray,List.set_cons_zero,List.set_cons_succ]
                refine HH.take 13 (oi:=_) (v:=?_) rfl (by kernel_rfl) (by kernel_rfl) (by kernel_rfl) (fun _ _ _ h=>h) (Or.inl ⟨by rfl,?_⟩) ‹_› ?_;rotate_left
                . (intro w9 hSw;(try dsimp only at hSw);go_split_ands;go_simp;try with_reducible rfl)
                try simp only [Act.put,List.getElem_toArray,List.getElem_cons_succ,List.getElem_cons_zero,List.setIfInBounds_toArray,List.set_cons_zero,List.set_cons_succ]
                refine HH.ready (rs:=[14]) (by kernel_rfl) (by simp) (by kernel_rfl) ?_;refine zu.cons (o:=_) rfl (fun K hK=>?_) zu.nil;rw [if_pos (by rfl)]
                go_simp
                go_at_call 200;refine (HROOM.out _ (HT.out.below hHeld.1.out)).mono ?_;rintro e w7 ⟨rfl,hb2⟩;have hH0:=hHeld;clear hHeld;refine hK.out _ _ (zl (zt hb2 hH0.1) (fun hB=>⟨zh hB tL t7,zh hB hgb o1,zh hB hgb o2⟩)) (fun hHeld=>?_);clear hH0 hK K
                try simp only [Act.put,List.setIfInBounds_toArray,List.set_cons_zero,List.set_cons_succ]
                clear hb2;refine HH.take 15 (oi:=_) (v:=?_) rfl (by kernel_rfl) (by kernel_rfl) (by kernel_rfl) (fun _ _ _ h=>h) (Or.inl ⟨by rfl,?_⟩) ‹_› ?_;rotate_left
                . (intro w9 hSw;(try dsimp only at hSw);go_split_ands;go_simp;try with_reducible rfl)
                try simp only [Act.put,List.getElem_toArray,List.getElem_cons_succ,List.getElem_cons_zero,List.setIfInBounds_toArray,List.set_cons_zero,List.set_cons_succ]
                refine HH.take 16 (oi:=_) (v:=?_) rfl (by kernel_rfl) (by kernel_rfl) (by kernel_rfl) (fun _ _ _ h=>h) (Or.inl ⟨by rfl,?_⟩) ‹_› ?_;rotate_left
                . (intro w9 hSw;(try dsimp only at hSw);go_split_ands;go_simp;try with_reducible rfl)
                try simp only [Act.put,List.getElem_toArray,List.getElem_cons_succ,List.getElem_cons_zero,List.setIfInBounds_toArray,List.set_cons_zero,List.set_cons_succ]
                refine HH.take 17 (oi:=_) (v:=?_) rfl (by kernel_rfl) (by kernel_rfl) (by kernel_rfl) (fun _ _ _ h=>h) (Or.inl ⟨by rfl,?_⟩) ‹_› ?_;rotate_left
                . (intro w9 hSw;(try dsimp only at hSw);go_split_ands;go_simp;try with_reducible rfl)
                try simp only [Act.put,List.getElem_toArray,List.getElem_cons_succ,List.getElem_cons_zero,List.setIfInBounds_toArray,List.set_cons_zero,List.set_cons_succ]
                refine HH.take 18 (oi:=_) (v:=?_) rfl (by kernel_rfl) (by kernel_rfl) (by kernel_rfl) (fun _ _ _ h=>h) (Or.inl ⟨by rfl,?_⟩) ‹_› ?_;rotate_left
                . (intro w9 hSw;(try dsimp only at hSw);go_split_ands;go_simp;try with_reducible rfl)
                try simp only [Act.put,List.getElem_toArray,List.getElem_cons_succ,List.getElem_cons_zero,List.setIfInBounds_toArray,List.set_cons_zero,List.set_cons_succ]
                refine HH.take 19 (oi:=_) (v:=?_) rfl (by kernel_rfl) (by kernel_rfl) (by kernel_rfl) (fun _ _ _ h=>h) (Or.inl ⟨by rfl,?_⟩) ‹_› ?_;rotate_left
                . (intro w9 hSw;(try dsimp only at hSw);go_split_ands;go_simp;try with_reducible rfl)
                try simp only [Act.put,List.getElem_toArray,List.getElem_cons_succ,List.getElem_cons_zero,List.setIfInBounds_toArray,List.set_cons_zero,List.set_cons_succ]
                refine HH.take 20 (oi:=_) (v:=?_) rfl (by kernel_rfl) (by kernel_rfl) (by kernel_rfl) (fun _ _ _ h=>h) (Or.inl ⟨by rfl,?_⟩) ‹_› ?_;rotate_left
                . (intro w9 hSw;(try dsimp only at hSw);go_split_ands;go_simp;try with_reducible rfl)
                try simp only [Act.put,List.getElem_toArray,List.getElem_cons_succ,List.getElem_cons_zero,List.setIfInBounds_toArray,List.set_cons_zero,List.set_cons_succ]
                refine HH.take 21 (oi:=_) (v:=?_) rfl (by kernel_rfl) (by kernel_rfl) (by kernel_rfl) (fun _ _ _ h=>h) (Or.inl ⟨by rfl,?_⟩) ‹_› ?_;rotate_left
                . (intro w9 hSw;(try dsimp only at hSw);go_split_ands;go_simp;try with_reducible rfl)
                try simp only [Act.put,List.getElem_toArray,List.getElem_cons_succ,List.getElem_cons_zero,List.setIfInBounds_toArray,List.set_cons_zero,List.set_cons_succ]
                refine HH.take 22 (oi:=_) (v:=?_) rfl (by kernel_rfl) (by kernel_rfl) (by kernel_rfl) (fun _ _ _ h=>h) (Or.inl ⟨by rfl,?_⟩) ‹_› ?_;rotate_left
                . (intro w9 hSw;(try dsimp only at hSw);go_split_ands;go_simp;try with_reducible rfl)
                try simp only [Act.put,List.getElem_toArray,List.getElem_cons_succ,List.getElem_cons_zero,List.setIfInBounds_toArray,List.set_cons_zero,List.set_cons_succ]
                refine HH.take 23 (oi:=_) (v:=?_) rfl (by kernel_rfl) (by kernel_rfl) (by kernel_rfl) (fun _ _ _ h=>h) (Or.inl ⟨by rfl,?_⟩) ‹_› ?_;rotate_left
                . (intro w9 hSw;(try dsimp only at hSw);go_split_ands;go_simp;try with_reducible rfl)
                try simp only [Act.put,List.getElem_toArray,List.getElem_cons_succ,List.getElem_cons_zero,List.setIfInBounds_toArray,List.set_cons_zero,List.set_cons_succ]
                refine HH.take 24 (oi:=_) (v:=?_) rfl (by kernel_rfl) (by kernel_rfl) (by kernel_rfl) (fun _ _ _ h=>h) (Or.inl ⟨by rfl,?_⟩) ‹_› ?_;rotate_left
                . (intro w9 hSw;(try dsimp only at hSw);go_split_ands;go_simp;try with_reducible rfl)
                try simp only [Act.put,List.getElem_toArray,List.getElem_cons_succ,List.getElem_cons_zero,List.setIfInBounds_toArray,List.set_cons_zero,List.set_cons_succ]
                refine HH.ready (rs:=[25]) (by kernel_rfl) (by simp) (by kernel_rfl) ?_;refine zu.cons (o:=_) rfl (fun K hK=>?_) zu.nil;rw [if_pos (by rfl)]
                go_simp
                go_at_call 200;refine (HROOM.out _ (HT.out.below hHeld.1.out)).mono ?_;rintro e w8 ⟨rfl,hb2⟩;have hH0:=hHeld;clear hHeld;refine hK.out _ _ (zl (zt hb2 hH0.1) (fun hB=>⟨zh hB tL t7,zh hB hgb o1,zh hB hgb o2⟩)) (fun hHeld=>?_);clear hH0 hK K
                try simp only [Act.put,List.setIfInBounds_toArray,List.set_cons_zero,List.set_cons_succ]
                clear hb2;refine HH.take 26 (oi:=_) (v:=?_) rfl (by kernel_rfl) (by kernel_rfl) (by kernel_rfl) (fun _ _ _ h=>h) (Or.inl ⟨by rfl,?_⟩) ‹_› ?_;rotate_left
                . (intro w9 hSw;(try dsimp only at hSw);go_split_ands;go_simp;try with_reducible rfl)
                try simp only [Act.put,List.getElem_toArray,List.getElem_cons_succ,List.getElem_cons_zero,List.setIfInBounds_toArray,List.set_cons_zero,List.set_cons_succ]
                refine HH.take 27 (oi:=_) (v:=?_) rfl (by kernel_rfl) (by kernel_rfl) (by kernel_rfl) (fun _ _ _ h=>h) (Or.inl ⟨by rfl,?_⟩) ‹_› ?_;rotate_left
                . (intro w9 hSw;(try dsimp only at hSw);go_split_ands;go_simp;try with_reducible rfl)
                try simp only [Act.put,List.getElem_toArray,List.getElem_cons_succ,List.getElem_cons_zero,List.setIfInBounds_toArray,List.set_cons_zero,List.set_cons_succ]
                refine HH.take 28 (oi:=_) (v:=?_) rfl (by kernel_rfl) (by kernel_rfl) (by kernel_rfl) (fun _ _ _ h=>h) (Or.inl ⟨by rfl,?_⟩) ‹_› ?_;rotate_left
                . (intro w9 hSw;(try dsimp only at hSw);go_split_ands;go_simp;try with_reducible rfl)
                try simp only [Act.put,List.getElem_toArray,List.getElem_cons_succ,List.getElem_cons_zero,List.setIfInBounds_toArray,List.set_cons_zero,List.set_cons_succ]
                refine HH.take 29 (oi:=_) (v:=?_) rfl (by kernel_rfl) (by kernel_rfl) (by kernel_rfl) (fun _ _ _ h=>h) (Or.inl ⟨by rfl,?_⟩) ‹_› ?_;rotate_left
                . (intro w9 hSw;(try dsimp only at hSw);go_split_ands;go_simp;try with_reducible rfl)
                try simp only [Act.put,List.getElem_toArray,List.getElem_cons_succ,List.getElem_cons_zero,List.setIfInBounds_toArray,List.set_cons_zero,List.set_cons_succ]
                refine HH.take 30 (oi:=_) (v:=?_) rfl (by kernel_rfl) (by kernel_rfl) (by kernel_rfl) (fun _ _ _ h=>h) (Or.inl ⟨by rfl,?_⟩) ‹_› ?_;rotate_left
                . (intro w9 hSw;(try dsimp only at hSw);go_split_ands;go_simp;try with_reducible rfl)
                try simp only [Act.put,List.getElem_toArray,List.getElem_cons_succ,List.getElem_cons_zero,List.setIfInBounds_toArray,List.set_cons_zero,List.set_cons_succ]
                refine HH.take 31 (oi:=_) (v:=?_) rfl (by kernel_rfl) (by kernel_rfl) (by kernel_rfl) (fun _ _ _ h=>h) (Or.inl ⟨by rfl,?_⟩) ‹_› ?_;rotate_left
                . (intro w9 hSw;(try dsimp only at hSw);go_split_ands;go_simp;try with_reducible rfl)
                try simp only [Act.put,List.getElem_toArray,List.getElem_cons_succ,List.getElem_cons_zero,List.setIfInBounds_toArray,List.set_cons_zero,List.set_cons_succ]
                refine HH.take 32 (oi:=_) (v:=?_) rfl (by kernel_rfl) (by kernel_rfl) (by kernel_rfl) (fun _ _ _ h=>h) (Or.inl ⟨by rfl,?_⟩) ‹_› ?_;rotate_left
                . (intro w9 hSw;(try dsimp only at hSw);go_split_ands;go_simp;try with_reducible rfl)
                try simp only [Act.put,List.getElem_toArray,List.getElem_cons_succ,List.getElem_cons_zero,List.setIfInBounds_toArray,List.set_cons_zero,List.set_cons_succ]
                refine HH.take 33 (oi:=_) (v:=?_) rfl (by kernel_rfl) (by kernel_rfl) (by kernel_rfl) (fun _ _ _ h=>h) (Or.inl ⟨by rfl,?_⟩) ‹_› ?_;rotate_left
                . (intro w9 hSw;(try dsimp only at hSw);go_split_ands;go_simp;try with_reducible rfl)
                try simp only [Act.put,List.getElem_toArray,List.getElem_cons_succ,List.getElem_cons_zero,List.setIfInBounds_toArray,List.set_cons_zero,List.set_cons_succ]
                refine HH.take 34 (oi:=_) (v:=?_) rfl (by kernel_rfl) (by kernel_rfl) (by kernel_rfl) (fun _ _ _ h=>h) (Or.inl ⟨by rfl,?_⟩) ‹_› ?_;rotate_left
                . (intro w9 hSw;(try dsimp only at hSw);go_split_ands;go_simp;try with_reducible rfl)
                try simp only [Act.put,List.getElem_toArray,List.getElem_cons_succ,List.getElem_cons_zero,List.setIfInBounds_toArray,List.set_cons_zero,List.set_cons_succ]
                refine HH.take 35 (oi:=_) (v:=?_) rfl (by kernel_rfl) (by kernel_rfl) (by kernel_rfl) (fun _ _ _ h=>h) (Or.inl ⟨by rfl,?_⟩) ‹_› ?_;rotate_left
                . (intro w9 hSw;(try dsimp only at hSw);go_split_ands;go_simp;try with_reducible rfl)
                try simp only [Act.put,List.getElem_toArray,List.getElem_cons_succ,List.getElem_cons_zero,List.setIfInBounds_toArray,List.set_cons_zero,List.set_cons_succ]
                refine HH.take 36 (oi:=_) (v:=?_) rfl (by kernel_rfl) (by kernel_rfl) (by kernel_rfl) (fun _ _ _ h=>h) (Or.inl ⟨by rfl,?_⟩) ‹_› ?_;rotate_left
                . (intro w9 hSw;(try dsimp only at hSw);go_split_ands;go_simp;try with_reducible rfl)
                try simp only [Act.put,List.getElem_toArray,List.getElem_cons_succ,List.getElem_cons_zero,List.setIfInBounds_toArray,List.set_cons_zero,List.set_cons_succ]
                refine HH.take 37 (oi:=_) (v:=?_) rfl (by kernel_rfl) (by kernel_rfl) (by kernel_rfl) (fun _ _ _ h=>h) (Or.inl ⟨by rfl,?_⟩) ‹_› ?_;rotate_left
                . (intro w9 hSw;(try dsimp only at hSw);go_split_ands;go_simp;try with_reducible rfl)
                try simp only [Act.put,List.getElem_toArray,List.getElem_cons_succ,List.getElem_cons_zero,List.setIfInBounds_toArray,List.set_cons_zero,List.set_cons_succ]
                refine HH.take 38 (oi:=_) (v:=?_) rfl (by kernel_rfl) (by kernel_rfl) (by kernel_rfl) (fun _ _ _ h=>h) (Or.inl ⟨by rfl,?_⟩) ‹_› ?_;rotate_left
                . (intro w9 hSw;(try dsimp only at hSw);go_split_ands;go_simp;try with_reducible rfl)
                try simp only [Act.put,List.getElem_toArray,List.getElem_cons_succ,List.getElem_cons_zero,List.setIfInBounds_toArray,List.set_cons_zero,List.set_cons_succ]
                refine HH.take 39 (oi:=_) (v:=?_) rfl (by kernel_rfl) (by kernel_rfl) (by kernel_rfl) (fun _ _ _ h=>h) (Or.inl ⟨by rfl,?_⟩) ‹_› ?_;rotate_left
                . (intro w9 hSw;(try dsimp only at hSw);go_split_ands;go_simp;try with_reducible rfl)
                try simp only [Act.put,List.getElem_toArray,List.getElem_cons_succ,List.getElem_cons_zero,List.setIfInBounds_toArray,List.set_cons_zero,List.set_cons_succ]
                refine HH.take 40 (oi:=_) (v:=?_) rfl (by kernel_rfl) (by kernel_rfl) (by kernel_rfl) (fun _ _ _ h=>h) (Or.inl ⟨by rfl,?_⟩) ‹_› ?_;rotate_left
                . (intro w9 hSw;(try dsimp only at hSw);go_split_ands;go_simp;try with_reducible rfl)
                try simp only [Act.put,List.getElem_toArray,List.getElem_cons_succ,List.getElem_cons_zero,List.setIfInBounds_toArray,List.set_cons_zero,List.set_cons_succ]
                refine HH.take 41 (oi:=_) (v:=?_) rfl (by kernel_rfl) (by kernel_rfl) (by kernel_rfl) (fun _ _ _ h=>h) (Or.inl ⟨by rfl,?_⟩) ‹_› ?_;rotate_left
                . (intro w9 hSw;(try dsimp only at hSw);go_split_ands;go_simp;try with_reducible rfl)
                try simp only [Act.put,List.getElem_toArray,List.getElem_cons_succ,List.getElem_cons_zero,List.setIfInBounds_toArray,List.set_cons_zero,List.set_cons_succ]
                refine HH.take 42 (oi:=_) (v:=?_) rfl (by kernel_rfl) (by kernel_rfl) (by kernel_rfl) (fun _ _ _ h=>h) (Or.inl ⟨by rfl,?_⟩) ‹_› ?_;rotate_left
                . (intro w9 hSw;(try dsimp only at hSw);go_split_ands;go_simp;try with_reducible rfl)
                try simp only [Act.put,List.getElem_toArray,List.getElem_cons_succ,List.getElem_cons_zero,List.setIfInBounds_toArray,List.set_cons_zero,List.set_cons_succ]
                refine HH.take 43 (oi:=_) (v:=?_) rfl (by kernel_rfl) (by kernel_rfl) (by kernel_rfl) (fun _ _ _ h=>h) (Or.inl ⟨by rfl,?_⟩) ‹_› ?_;rotate_left
                . (intro w9 hSw;(try dsimp only at hSw);go_split_ands;go_simp;try with_reducible rfl)
                try simp only [Act.put,List.getElem_toArray,List.getElem_cons_succ,List.getElem_cons_zero,List.setIfInBounds_toArray,List.set_cons_zero,List.set_cons_succ]
                refine HH.take 44 (oi:=_) (v:=?_) rfl (by kernel_rfl) (by kernel_rfl) (by kernel_rfl) (fun _ _ _ h=>h) (Or.inl ⟨by rfl,?_⟩) ‹_› ?_;rotate_left
                . (intro w9 hSw;(try dsimp only at hSw);go_split_ands;go_simp;try with_reducible rfl)
                try simp only [Act.put,List.getElem_toArray,List.getElem_cons_succ,List.getElem_cons_zero,List.setIfInBounds_toArray,List.set_cons_zero,List.set_cons_succ]
                refine HH.take 45 (oi:=_) (v:=?_) rfl (by kernel_rfl) (by kernel_rfl) (by kernel_rfl) (fun _ _ _ h=>h) (Or.inl ⟨by rfl,?_⟩) ‹_› ?_;rotate_left
                . (intro w9 hSw;(try dsimp only at hSw);go_split_ands;go_simp;try with_reducible rfl)
                try simp only [Act.put,List.getElem_toArray,List.getElem_cons_succ,List.getElem_cons_zero,List.setIfInBounds_toArray,List.set_cons_zero,List.set_cons_succ]
                have HBY:=(hHeld.1).out;replace HT:=ze (zW.below HT.out HBY);replace HW:=eb_ HW HBY;clear HBY hHeld;refine HH.done (by kernel_rfl) ?_;simp only [List.drop_succ_cons,List.drop_zero];clear t7 o1 o2 tL hgb hbc;go_wp2_with fail;go_roundw
                case rel=>exact ⟨i+1,by omega,by go_num,(by rw [HRM.out,HEN.out];rfl),HT,HW⟩
                case measure=>simp [intOf];omega
        . have HEN:Hid (T.leave rm c (i+1)=some j):=T.leave_no (Int.not_le.2 HP.out) HLV.out (fun h=>by
           rcases h with h | ⟨h,_⟩<;>omega)
          clear hcc;refine zq (S:=fun w' =>Hid (Below w6.heap.size w6 w')/\w'.cell? ⟨F.gt,7,none⟩=some (.slice (some ⟨gb,0,none⟩) m cb)/\w'.cell? ⟨gb,i,none⟩=some (.int .i64 (T.basic i:Nat))/\w'.cell? ⟨gb,j,none⟩=some (.int .i64 (T.basic j:Nat))) 3 43 46 rfl (by kernel_rfl) (by kernel_rfl) (by kernel_rfl) rfl (zl (zz w6) (fun hB=>⟨zh hB tL t7,zh hB hgb o1,zh hB hgb o2⟩)) ?_ (fun hHeld=>?_)
          . intro _ _ _ _ _ h9;exact h9
          simp only [List.take_succ_cons,List.take_zero]
          iterate 3 (refine zD (v:=?_) ?_ ?_;rotate_left;(focus (as_aux_lemma=>(intro w9 hSw;(try dsimp only at hSw);go_split_ands;go_simp;try with_reducible rfl)));try simp only [Act.put,List.setIfInBounds_toArray,List.set_cons_zero,List.set_cons_succ])
          refine zI ?_;refine HH.take 3 (oi:=_) (v:=?_) rfl (by kernel_rfl) (by kernel_rfl) (by kernel_rfl) (fun _ _ _ h=>h) (Or.inl ⟨by rfl,?_⟩) ‹_› ?_;rotate_left
          . (intro w9 hSw;(try dsimp only at hSw);go_split_ands;go_simp;try with_reducible rfl)
          try simp only [Act.put,List.getElem_toArray,List.getElem_cons_succ,List.getElem_cons_zero,List.setIfInBounds_toArray,List.set_cons_zero,List.set_cons_succ]
          refine HH.take 4 (oi:=_) (v:=?_) rfl (by kernel_rfl) (by kernel_rfl) (by kernel_rfl) (fun _ _ _ h=>h) (Or.inl ⟨by rfl,?_⟩) ‹_› ?_;rotate_left
          . (intro w9 hSw;(try dsimp only at hSw);go_split_ands;go_simp;try with_reducible rfl)
          try simp only [Act.put,List.getElem_toArray,List.getElem_cons_succ,List.getElem_cons_zero,List.setIfInBounds_toArray,List.set_cons_zero,List.set_cons_succ]
          refine HH.take 5 (oi:=_) (v:=?_) rfl (by kernel_rfl) (by kernel_rfl) (by kernel_rfl) (fun _ _ _ h=>h) (Or.inl ⟨by rfl,?_⟩) ‹_› ?_;rotate_left
          . (intro w9 hSw;(try dsimp only at hSw);go_split_ands;go_simp;try with_reducible rfl)
          try simp only [Act.put,List.getElem_toArray,List.getElem_cons_succ,List.getElem_cons_zero,List.setIfInBounds_toArray,List.set_cons_zero,List.set_cons_succ]
          refine HH.take 6 (oi:=_) (v:=_) rfl (by kernel_rfl) (by kernel_rfl) (by kernel_rfl) (fun _ _ _ h=>h) (Or.inr ⟨by rfl,rfl⟩) ‹_› ?_
          try simp only [Act.put,List.getElem_toArray,List.getElem_cons_succ,List.getElem_cons_zero,List.setIfInBounds_toArray,List.set_cons_zero,List.set_cons_succ]
          refine HH.take 7 (oi:=_) (v:=_) rfl (by kernel_rfl) (by kernel_rfl) (by kernel_rfl) (fun _ _ _ h=>h) (Or.inr ⟨by rfl,rfl⟩) ‹_› ?_
          try simp only [Act.put,List.getElem_toArray,List.getElem_cons_succ,List.getElem_cons_zero,List.setIfInBounds_toArray,List.set_cons_zero,List.set_cons_succ]
          refine HH.take 8 (oi:=_) (v:=_) rfl (by kernel_rfl) (by kernel_rfl) (by kernel_rfl) (fun _ _ _ h=>h) (Or.inr ⟨by rfl,rfl⟩) ‹_› ?_
          try simp only [Act.put,List.getElem_toArray,List.getElem_cons_succ,List.getElem_cons_zero,List.setIfInBounds_toArray,List.set_cons_zero,List.set_cons_succ]
          refine HH.take 9 (oi:=_) (v:=_) rfl (by kernel_rfl) (by kernel_rfl) (by kernel_rfl) (fun _ _ _ h=>h) (Or.inr ⟨by rfl,rfl⟩) ‹_› ?_
          try simp only [Act.put,List.getElem_toArray,List.getElem_cons_succ,List.getElem_cons_zero,List.setIfInBounds_toArray,List.set_cons_zero,List.set_cons_succ]
          refine HH.take 10 (oi:=_) (v:=_) rfl (by kernel_rfl) (by kernel_rfl) (by kernel_rfl) (fun _ _ _ h=>h) (Or.inr ⟨by rfl,rfl⟩) ‹_› ?_
          try simp only [Act.put,List.getElem_toArray,List.getElem_cons_succ,List.getElem_cons_zero,List.setIfInBounds_toArray,List.set_cons_zero,List.set_cons_succ]
          refine HH.take 11 (oi:=_) (v:=_) rfl (by kernel_rfl) (by kernel_rfl) (by kernel_rfl) (fun _ _ _ h=>h) (Or.inr ⟨by rfl,rfl⟩) ‹_› ?_
          try simp only [Act.put,List.getElem_toArray,List.getElem_cons_succ,List.getElem_cons_zero,List.setIfInBounds_toArray,List.set_cons_zero,List.set_cons_succ]
          refine HH.take 12 (oi:=_) (v:=_) rfl (by kernel_rfl) (by kernel_rfl) (by kernel_rfl) (fun _ _ _ h=>h) (Or.inr ⟨by rfl,rfl⟩) ‹_› ?_
          try simp only [Act.put,List.getElem_toArray,List.getElem_cons_succ,List.getElem_cons_zero,List.setIfInBounds_toArray,List.set_cons_zero,List.set_cons_succ]
          refine HH.take 13 (oi:=_) (v:=_) rfl (by kernel_rfl) (by kernel_rfl) (by kernel_rfl) (fun _ _ _ h=>h) (Or.inr ⟨by rfl,rfl⟩) ‹_› ?_
          try simp only [Act.put,List.getElem_toArray,List.getElem_cons_succ,List.getElem_cons_zero,List.setIfInBounds_toArray,List.set_cons_zero,List.set_cons_succ]
          refine HH.take 14 (oi:=_) (v:=_) rfl (by kernel_rfl) (by kernel_rfl) (by kernel_rfl) (fun _ _ _ h=>h) (Or.inr ⟨by rfl,rfl⟩) ‹_› ?_
          try simp only [Act.put,List.getElem_toArray,List.getElem_cons_succ,List.getElem_cons_zero,List.setIfInBounds_toArray,List.set_cons_zero,List.set_cons_succ]
          refine HH.take 15 (oi:=_) (v:=_) rfl (by kernel_rfl) (by kernel_rfl) (by kernel_rfl) (fun _ _ _ h=>h) (Or.inr ⟨by rfl,rfl⟩) ‹_› ?_
          try simp only [Act.put,List.getElem_toArray,List.getElem_cons_succ,List.getElem_cons_zero,List.setIfInBounds_toArray,List.set_cons_zero,List.set_cons_succ]
          refine HH.take 16 (oi:=_) (v:=_) rfl (by kernel_rfl) (by kernel_rfl) (by kernel_rfl) (fun _ _ _ h=>h) (Or.inr ⟨by rfl,rfl⟩) ‹_› ?_
          try simp only [Act.put,List.getElem_toArray,List.getElem_cons_succ,List.getElem_cons_zero,List.setIfInBounds_toArray,List.set_cons_zero,List.set_cons_succ]
          refine HH.take 17 (oi:=_) (v:=_) rfl (by kernel_rfl) (by kernel_rfl) (by kernel_rfl) (fun _ _ _ h=>h) (Or.inr ⟨by rfl,rfl⟩) ‹_› ?_
          try simp only [Act.put,List.getElem_toArray,List.getElem_cons_succ,List.getElem_cons_zero,List.setIfInBounds_toArray,List.set_cons_zero,List.set_cons_succ]
          refine HH.take 18 (oi:=_) (v:=_) rfl (by kernel_rfl) (by kernel_rfl) (by kernel_rfl) (fun _ _ _ h=>h) (Or.inr ⟨by rfl,rfl⟩) ‹_› ?_
          try simp only [Act.put,List.getElem_toArray,List.getElem_cons_succ,List.getElem_cons_zero,List.setIfInBounds_toArray,List.set_cons_zero,List.set_cons_succ]
          refine HH.take 19 (oi:=_) (v:=_) rfl (by kernel_rfl) (by kernel_rfl) (by kernel_rfl) (fun _ _ _ h=>h) (Or.inr ⟨by rfl,rfl⟩) ‹_› ?_
          try simp only [Act.put,List.getElem_toArray,List.getElem_cons_succ,List.getElem_cons_zero,List.setIfInBounds_toArray,List.set_cons_zero,List.set_cons_succ]
          refine HH.take 20 (oi:=_) (v:=_) rfl (by kernel_rfl) (by kernel_rfl) (by kernel_rfl) (fun _ _ _ h=>h) (Or.inr ⟨by rfl,rfl⟩) ‹_› ?_
          try simp only [Act.put,List.getElem_toArray,List.getElem_cons_succ,List.getElem_cons_zero,List.setIfInBounds_toArray,List.set_cons_zero,List.set_cons_succ]
          refine HH.take 21 (oi:=_) (v:=_) rfl (by kernel_rfl) (by kernel_rfl) (by kernel_rfl) (fun _ _ _ h=>h) (Or.inr ⟨by rfl,rfl⟩) ‹_› ?_
          try simp only [Act.put,List.getElem_toArray,List.getElem_cons_succ,List.getElem_cons_zero,List.setIfInBounds_toArray,List.set_cons_zero,List.set_cons_succ]
          refine HH.take 22 (oi:=_) (v:=_) rfl (by kernel_rfl) (by kernel_rfl) (by kernel_rfl) (fun _ _ _ h=>h) (Or.inr ⟨by rfl,rfl⟩) ‹_› ?_
          try simp only [Act.put,List.getElem_toArray,List.getElem_cons_succ,List.getElem_cons_zero,List.setIfInBounds_toArray,List.set_cons_zero,List.set_cons_succ]
          refine HH.take 23 (oi:=_) (v:=_) rfl (by kernel_rfl) (by kernel_rfl) (by kernel_rfl) (fun _ _ _ h=>h) (Or.inr ⟨by rfl,rfl⟩) ‹_› ?_
          try simp only [Act.put,List.getElem_toArray,List.getElem_cons_succ,List.getElem_cons_zero,List.setIfInBounds_toArray,List.set_cons_zero,List.set_cons_succ]
          refine HH.take 24 (oi:=_) (v:=_) rfl (by kernel_rfl) (by kernel_rfl) (by kernel_rfl) (fun _ _ _ h=>h) (Or.inr ⟨by rfl,rfl⟩) ‹_› ?_
          try simp only [Act.put,List.getElem_toArray,List.getElem_cons_succ,List.getElem_cons_zero,List.setIfInBounds_toArray,List.set_cons_zero,List.set_cons_succ]
          refine HH.take 25 (oi:=_) (v:=_) rfl (by kernel_rfl) (by kernel_rfl) (by kernel_rfl) (fun _ _ _ h=>h) (Or.inr ⟨by rfl,rfl⟩) ‹_› ?_
          try simp only [Act.put,List.getElem_toArray,List.getElem_cons_succ,List.getElem_cons_zero,List.setIfInBounds_toArray,List.set_cons_zero,List.set_cons_succ]
          refine HH.take 26 (oi:=_) (v:=_) rfl (by kernel_rfl) (by kernel_rfl) (by kernel_rfl) (fun _ _ _ h=>h) (Or.inr ⟨by rfl,rfl⟩) ‹_› ?_
          try simp only [Act.put,List.getElem_toArray,List.getElem_cons_succ,List.getElem_cons_zero,List.setIfInBounds_toArray,List.set_cons_zero,List.set_cons_succ]
          refine HH.take 27 (oi:=_) (v:=_) rfl (by kernel_rfl) (by kernel_rfl) (by kernel_rfl) (fun _ _ _ h=>h) (Or.inr ⟨by rfl,rfl⟩) ‹_› ?_
          try simp only [Act.put,List.getElem_toArray,List.getElem_cons_succ,List.getElem_cons_zero,List.setIfInBounds_toArray,List.set_cons_zero,List.set_cons_succ]
          refine HH.take 28 (oi:=_) (v:=_) rfl (by kernel_rfl) (by kernel_rfl) (by kernel_rfl) (fun _ _ _ h=>h) (Or.inr ⟨by rfl,rfl⟩) ‹_› ?_
          try simp only [Act.put,List.getElem_toArray,List.getElem_cons_succ,List.getElem_cons_zero,List.setIfInBounds_toArray,List.set_cons_zero,List.set_cons_succ]
          refine HH.take 29 (oi:=_) (v:=_) rfl (by kernel_rfl) (by kernel_rfl) (by kernel_rfl) (fun _ _ _ h=>h) (Or.inr ⟨by rfl,rfl⟩) ‹_› ?_
          try simp only [Act.put,List.getElem_toArray,List.getElem_cons_succ,List.getElem_cons_zero,List.setIfInBounds_toArray,List.set_cons_zero,List.set_cons_succ]
          refine HH.take 30 (oi:=_) (v:=_) rfl (by kernel_rfl) (by kernel_rfl) (by kernel_rfl) (fun _ _ _ h=>h) (Or.inr ⟨by rfl,rfl⟩) ‹_› ?_
          try simp only [Act.put,List.getElem_toArray,List.getElem_cons_succ,List.getElem_cons_zero,List.setIfInBounds_toArray,List.set_cons_zero,List.set_cons_succ]
          refine HH.take 31 (oi:=_) (v:=_) rfl (by kernel_rfl) (by kernel_rfl) (by kernel_rfl) (fun _ _ _ h=>h) (Or.inr ⟨by rfl,rfl⟩) ‹_› ?_
          try simp only [Act.put,List.getElem_toArray,List.getElem_cons_succ,List.getElem_cons_zero,List.setIfInBounds_toArray,List.set_cons_zero,List.set_cons_succ]
          refine HH.take 32 (oi:=_) (v:=_) rfl (by kernel_rfl) (by kernel_rfl) (by kernel_rfl) (fun _ _ _ h=>h) (Or.inr ⟨by rfl,rfl⟩) ‹_› ?_
          try simp only [Act.put,List.getElem_toArray,List.getElem_cons_succ,List.getElem_cons_zero,List.setIfInBounds_toArray,List.set_cons_zero,List.set_cons_succ]
          refine HH.take 33 (oi:=_) (v:=_) rfl (by kernel_rfl) (by kernel_rfl) (by kernel_rfl) (fun _ _ _ h=>h) (Or.inr ⟨by rfl,rfl⟩) ‹_› ?_
          try simp only [Act.put,List.getElem_toArray,List.getElem_cons_succ,List.getElem_cons_zero,List.setIfInBounds_toArray,List.set_cons_zero,List.set_cons_succ]
          refine HH.take 34 (oi:=_) (v:=_) rfl (by kernel_rfl) (by kernel_rfl) (by kernel_rfl) (fun _ _ _ h=>h) (Or.inr ⟨by rfl,rfl⟩) ‹_› ?_
          try simp only [Act.put,List.getElem_toArray,List.getElem_cons_succ,List.getElem_cons_zero,List.setIfInBounds_toArray,List.set_cons_zero,List.set_cons_succ]
          refine HH.take 35 (oi:=_) (v:=_) rfl (by kernel_rfl) (by kernel_rfl) (by kernel_rfl) (fun _ _ _ h=>h) (Or.inr ⟨by rfl,rfl⟩) ‹_› ?_
          try simp only [Act.put,List.getElem_toArray,List.getElem_cons_succ,List.getElem_cons_zero,List.setIfInBounds_toArray,List.set_cons_zero,List.set_cons_succ]
          refine HH.take 36 (oi:=_) (v:=_) rfl (by kernel_rfl) (by kernel_rfl) (by kernel_rfl) (fun _ _ _ h=>h) (Or.inr ⟨by rfl,rfl⟩) ‹_› ?_
          try simp only [Act.put,List.getElem_toArray,List.getElem_cons_succ,List.getElem_cons_zero,List.setIfInBounds_toArray,List.set_cons_zero,List.set_cons_succ]
          refine HH.take 37 (oi:=_) (v:=_) rfl (by kernel_rfl) (by kernel_rfl) (by kernel_rfl) (fun _ _ _ h=>h) (Or.inr ⟨by rfl,rfl⟩) ‹_› ?_
          try simp only [Act.put,List.getElem_toArray,List.getElem_cons_succ,List.getElem_cons_zero,List.setIfInBounds_toArray,List.set_cons_zero,List.set_cons_succ]
          refine HH.take 38 (oi:=_) (v:=_) rfl (by kernel_rfl) (by kernel_rfl) (by kernel_rfl) (fun _ _ _ h=>h) (Or.inr ⟨by rfl,rfl⟩) ‹_› ?_
          try simp only [Act.put,List.getElem_toArray,List.getElem_cons_succ,List.getElem_cons_zero,List.setIfInBounds_toArray,List.set_cons_zero,List.set_cons_succ]
          refine HH.take 39 (oi:=_) (v:=_) rfl (by kernel_rfl) (by kernel_rfl) (by kernel_rfl) (fun _ _ _ h=>h) (Or.inr ⟨by rfl,rfl⟩) ‹_› ?_
          try simp only [Act.put,List.getElem_toArray,List.getElem_cons_succ,List.getElem_cons_zero,List.setIfInBounds_toArray,List.set_cons_zero,List.set_cons_succ]
          refine HH.take 40 (oi:=_) (v:=_) rfl (by kernel_rfl) (by kernel_rfl) (by kernel_rfl) (fun _ _ _ h=>h) (Or.inr ⟨by rfl,rfl⟩) ‹_› ?_
          try simp only [Act.put,List.getElem_toArray,List.getElem_cons_succ,List.getElem_cons_zero,List.setIfInBounds_toArray,List.set_cons_zero,List.set_cons_succ]
          refine HH.take 41 (oi:=_) (v:=_) rfl (by kernel_rfl) (by kernel_rfl) (by kernel_rfl) (fun _ _ _ h=>h) (Or.inr ⟨by rfl,rfl⟩) ‹_› ?_
          try simp only [Act.put,List.getElem_toArray,List.getElem_cons_succ,List.getElem_cons_zero,List.setIfInBounds_toArray,List.set_cons_zero,List.set_cons_succ]
          refine HH.take 42 (oi:=_) (v:=_) rfl (by kernel_rfl) (by kernel_rfl) (by kernel_rfl) (fun _ _ _ h=>h) (Or.inr ⟨by rfl,rfl⟩) ‹_› ?_
          try simp only [Act.put,List.getElem_toArray,List.getElem_cons_succ,List.getElem_cons_zero,List.setIfInBounds_toArray,List.set_cons_zero,List.set_cons_succ]
          refine HH.take 43 (oi:=_) (v:=_) rfl (by kernel_rfl) (by kernel_rfl) (by kernel_rfl) (fun _ _ _ h=>h) (Or.inr ⟨by rfl,rfl⟩) ‹_› ?_
          try simp only [Act.put,List.getElem_toArray,List.getElem_cons_succ,List.getElem_cons_zero,List.setIfInBounds_toArray,List.set_cons_zero,List.set_cons_succ]
          refine HH.take 44 (oi:=_) (v:=_) rfl (by kernel_rfl) (by kernel_rfl) (by kernel_rfl) (fun _ _ _ h=>h) (Or.inr ⟨by rfl,rfl⟩) ‹_› ?_
          try simp only [Act.put,List.getElem_toArray,List.getElem_cons_succ,List.getElem_cons_zero,List.setIfInBounds_toArray,List.set_cons_zero,List.set_cons_succ]
          refine HH.take 45 (oi:=_) (v:=?_) rfl (by kernel_rfl) (by kernel_rfl) (by kernel_rfl) (fun _ _ _ h=>h) (Or.inl ⟨by rfl,?_⟩) ‹_› ?_;rotate_left
          . (intro w9 hSw;(try dsimp only at hSw);go_split_ands;go_simp;try with_reducible rfl)
          try simp only [Act.put,List.getElem_toArray,List.getElem_cons_succ,List.getElem_cons_zero,List.setIfInBounds_toArray,List.set_cons_zero,List.set_cons_succ]
          have HBY:=(hHeld.1).out;replace HT:=ze (zW.below HT.out HBY);replace HW:=eb_ HW HBY;clear HBY hHeld;refine HH.done (by kernel_rfl) ?_;simp only [List.drop_succ_cons,List.drop_zero];clear t7 o1 o2 tL hgb hbc;go_wp2_with fail;go_roundw
          case rel=>exact ⟨i+1,by omega,by go_num,(by rw [HRM.out,HEN.out];rfl),HT,HW⟩
          case measure=>simp [intOf];omega
  . obtain rfl:m=i:=by omega
    go_wp2_with fail;go_ret;exact ⟨by go_num,HW.out⟩
def wtN (T:ym) (nn m:Nat) (sc:Nat->Int) (b:Int):Nat->Nat->Rat
 | 0=>fun _=>0
 | n+1=>fun i=>if T.other n=2*nn+i then Rat.divInt (-(T.cell m (n+1))*sc i) (T.den*b) else wtN T nn m sc b n i
def Xj (w:World) (g n:Nat) (f:Nat->Int):Prop:=g<w.heap.size/\∀ k,k<n->zan w g k (f k)
theorem Xj.below {w w' :World} {g n:Nat} {f:Nat->Int} (h:Xj w g n f) (hb:Below w.heap.size w w'):Xj w' g n f:=⟨Nat.lt_of_lt_of_le h.1 hb.size,fun k hk=>(h.2 k hk).below hb⟩
theorem Xk {w w1 w2:World} {g:Nat} (h:Below w.heap.size w w1) (hc:Chg (· =g) w1 w2) (hg:w.heap.size<=g):Below w.heap.size w w2:=h.trans (hc.below h.size (fun b e=>by omega))
def zmo (m:Nat) (f:Nat->Rat) (w:World) (e:Ending) (w' :World):Prop:=∃ g,e= .returned (.slice (some ⟨g,0,none⟩) m m)/\yK w' g m m f/\Below w.heap.size w w'
def WtA (w0:World) (m g gb:Nat) (z:Int) (iv:Value) (wr:World):Prop:=
 ∃ i:Nat,i<=m/\iv= .int .i64 i/\Hid (yK wr g m i (fun _=>0))/\Hid (vY wr gb z)/\Hid (Below w0.heap.size w0 wr)
def WtB (w0:World) (m L g gb nn:Nat) (T:ym) (sc:Nat->Int) (z:Int) (kv:Value) (wr:World):Prop:=
 ∃ k:Nat,k<=L - 1/\kv= .int .i64 k/\Hid (yK wr g m m (wtN T nn m sc z k))/\Hid (vY wr gb z)/\Hid (Below w0.heap.size w0 wr)
theorem zbs (base m L:Nat) (F:zN) (T:ym) (gs cs:Nat) (sc:Nat->Int) (vn:Value) (z:Int) (w:World) (hT:zW base m L F w T) (hs:Xj w gs m sc) (hn:zO w vn z) (hf:T.Fits m L) (hz:Fit z) (hz0:z≠0)
 (hsc:∀ i,i<m->Fit (sc i)) (hm:m<=100000) (hL:L<=100000) (ho:∀ k,k<L - 1->T.other k<=1000000):
 Calls Tryz.prog 197 #[.pointer (some ⟨F.gt,0,none⟩),.slice (some ⟨gs,0,none⟩) m cs,vn] w (zmo m (wtN T F.nn m sc z (L - 1)) w):=by
 obtain ⟨x2,A2,k2,c2,s2,rfl,_,_,_⟩:=hn.form
 obtain ⟨W0,hW0⟩:∃ x,x=w.alloc (.cells #[.int .i64 x2,.slice A2 k2 c2,.bool s2] 109):=⟨_,rfl⟩
 have hx:=zf w (.cells #[.int .i64 x2,.slice A2 k2 c2,.bool s2] 109)
 have hk1:=Blk.new w 109 #[.int .i64 x2,.slice A2 k2 c2,.bool s2]
 rw [<- hW0] at hx hk1
 have HV:Hid (vY W0 w.heap.size z):=⟨_,_,_,_,_,hk1,hn.below hx⟩
 have HW:=ze hx
 have HT0:=ze hT
 have HS0:=ze hs
 have HF:=ze hf
 have HZ:=ze hz
 have HZ0:=ze hz0
 have HSC:=ze hsc
 have HO:=ze ho
 clear hn hx hk1 hT hs hf hz hz0 hsc ho
 go_enter Tryz.func197,Tryz.ntmps197
 go_upto_region 1 with fail
 rw [<- hW0]
 clear hW0
 have HGB:=ze (Nat.le_refl w.heap.size)
 generalize hgv:w.heap.size=gv at HV |-
 have HGV:Hid (w.heap.size<=gv):=Nat.le_of_eq hgv
 clear hgv HGB
 have t1:=(HT0.out.below HW.out).cell1
 have hmk:=fun w=>zd0 .i64 m hm w
 go_upto_region 2 with fail
 have hx:=zf W0 (.cells (x8 m) 111)
 have HR:Hid (yK (W0.alloc (.cells (x8 m) 111)) W0.heap.size m 0 (fun _=>0)):=zf0 W0 m _
 have HGG:Hid (w.heap.size<=W0.heap.size/\gv<W0.heap.size):=⟨HW.out.size,HV.out.lt⟩
 replace HV:=ze (HV.out.below hx)
 replace HW:=eb_ HW hx
 clear hx hmk t1
 generalize W0.alloc (.cells (x8 m) 111)=W1 at HV HW HR |-
 generalize W0.heap.size=g at HR HGG |-
 go_wp2_with fail
 go_loopw [21] (WtA w m g gv z) (fun iv _=>m - (intOf iv).toNat)
 case atStart=>exact ⟨0,Nat.zero_le _,rfl,HR,HV,HW⟩
 case round=>
  clear HR HV HW
  obtain ⟨i,hi,rfl,HR,HV,HW⟩:=hrel
  by_cases hil:i<m
  . have hii:(i:Int)<(m:Int):=by omega
    go_wp2_with fail;refine (zcr 0 _ (by omega) (by omega)).mono ?_;rintro e w1 ⟨v,rfl,⟨x,A,k,c,s,y,B,k',c',t,rfl,hv1,hv2⟩,hb1⟩;replace HR:=ze (HR.out.below hb1);replace HV:=ze (HV.out.below hb1);replace HW:=eb_ HW hb1;obtain ⟨u0,u1,u2,u3,u4,u5,s0,s1,s2,s3,s4,s5⟩:=HR.out.slots hil;have f0:=HR.out.frozen (i*6);have f1:=HR.out.frozen (i*6+1);have f2:=HR.out.frozen (i*6+2);have f3:=HR.out.frozen (i*6+3);have f4:=HR.out.frozen (i*6+4);have f5:=HR.out.frozen (i*6+5);have hq:yE w1 (.agg #[.int .i64 x,.slice A k c,.bool s,.int .i64 y,.slice B k' c',.bool t]) 0:=⟨_,_,_,_,_,_,_,_,_,_,rfl,hv1,hv2⟩;have hcn:=Y0 (w:=w1) (g:=g) (k:=i) (x:=x) (s:=s) (A:=A) (n:=k) (c:=c) (y:=y) (t:=t) (B:=B) (n' :=k') (c' :=c')
    have HR2:Hid (yK (World.ratAt w1 g i x A k c s y B k' c' t) g m (i+1) (fun _=>0)):=HR.out.set hil hq (fun j hj=>by
     by_cases e:j=i
     . exact .inl ⟨e,rfl⟩
     . exact .inr ⟨e,by omega,rfl⟩)
    have HV2:=ze (HV.out.chg hcn (by have:=HGG.out.2;omega) (fun b e=>by subst e;exact HR.out.noDig));have HW2:=ze (Xk HW.out hcn HGG.out.1);clear HR HV HW hq hcn hv1 hv2 hb1;go_wp2_with fail;go_roundw
    case rel=>first | exact ⟨i+1,by omega,by go_num,HR2,HV2,HW2⟩ | ((repeat apply Exists.intro);exact ⟨⟨i+1,by omega,by go_num,HR2,HV2,HW2⟩,rfl⟩)
    case measure=>simp [intOf];omega
  . obtain rfl:m=i:=by omega
    skip
    obtain ⟨go,co,eo,hgo,hoc⟩:=HT0.out.others;have HOC:=ze (fun wr (h:Below w.heap.size w wr) k (hk:k<L - 1)=>(h.cell (p:=⟨go,k,none⟩) hgo).trans (hoc k hk));have HT:=ze (HT0.out.below HW.out);have t1:=HT.out.cell1;have t3:=HT.out.cell3;have t4:=HT.out.mat.cell (i:=m) (by omega);have hmi:(m:Int)<(m:Int)+1:=by omega
    clear hgo hoc
    go_upto_region 7 with fail
    go_region
    replace HR:=ze (HR.out.below (zz _).out);replace HV:=ze (HV.out.below (zz _).out);replace HW:=ze (ext HW.out (zz _).out);clear t1 t3 t4 HT;generalize wr.drew=W3 at HR HV HW |-;have t8:=(HT0.out.below HW.out).cell8;rw [eo] at t8;have h2n:IntKind.i64.wrap (2*(F.nn:Int))=2*(F.nn:Int):=by have:=HT0.out.cols;rw [IntKind.wrap_i64];omega
    have hnn:F.nn<=100000:=by have:=HT0.out.cols;omega
    go_wp2_with fail
    go_loopw [45] (WtB w m L g gv F.nn T sc z) (fun kv _=>L - 1 - (intOf kv).toNat)
    case atStart=>exact ⟨0,Nat.zero_le _,rfl,HR,HV,HW⟩
    case round=>
     clear HR HV HW t8;obtain ⟨k,hk,rfl,HR,HV,HW⟩:=hrel
     by_cases hkl:k<L - 1
     . have hki:(k:Int)<((L - 1:Nat):Int):=by omega
       have HT:=ze (HT0.out.below HW.out);have o1:=HOC.out _ HW.out k hkl;have t2:=HT.out.cell2;have t1:=HT.out.cell1;have hob:=HO.out k hkl;have hws:IntKind.i64.wrap ((T.other k:Int) - 2*(F.nn:Int))=(T.other k:Int) - 2*(F.nn:Int):=by rw [IntKind.wrap_i64];omega
       by_cases hin:2*F.nn<=T.other k/\T.other k<2*F.nn+m
       . obtain ⟨i,hi⟩:∃ i,i=T.other k - 2*F.nn:=⟨_,rfl⟩
         have ei:(T.other k:Int) - 2*(F.nn:Int)=(i:Int):=by omega
         have him:i<m:=by omega
         have HI:Hid (T.other k=2*F.nn+i):=by show T.other k=_;omega
         have d1:decide ((i:Int) ≥ 0)=true:=by rw [decide_eq_true_iff];omega
         have d2:decide ((i:Int)<(m:Int))=true:=by rw [decide_eq_true_iff];omega
         have hii:(i:Int)<(m:Int):=by omega
         rw [ei] at hws;obtain ⟨K,hK⟩:∃ K,K=k+1:=⟨_,rfl⟩;have eK:(k:Int)+1=(K:Int):=by omega
         have hKL:(K:Int)<(L:Int):=by omega
         have hwK:IntKind.i64.wrap (K:Int)=(K:Int):=by rw [IntKind.wrap_i64];omega
         have hK0:(0:Int)<=(K:Int):=by omega
         have hKl:K<L:=by omega
         have HK:=ze hK;clear hi hin hob hK
         go_upto_region 13 with fail
         obtain ⟨ax,aA,an,ac,ag,a0,a1,a2,ha⟩:=HT.out.mat.at_ (i:=m) (k:=K) (by omega) hKl;have hsn:=HS0.out.below HW.out;obtain ⟨bx,bA,bn,bc,bg,b0,b1,b2,hbn⟩:=hsn.2 i him;obtain ⟨dx,dA,dn,dc,dg,hblk,hden⟩:=HT.out.blk;have d4:wr.cell? ⟨F.gt,4,none⟩=some (.int .i64 dx):=by rw [hblk.cell];rfl
         have d5:wr.cell? ⟨F.gt,5,none⟩=some (.slice dA dn dc):=by rw [hblk.cell];rfl
         have d6:wr.cell? ⟨F.gt,6,none⟩=some (.bool dg):=by rw [hblk.cell];rfl
         obtain ⟨vx,vA,vn,vc,vg,hkv,hvn⟩:=HV.out;have q0:=hkv.cell 0;have q1:=hkv.cell 1;have q2:=hkv.cell 2;simp at q0 q1 q2;have tL:=hblk.lt;have aL:=(HT.out.mat.rows m (by omega)).2.lt;have bL:=hsn.1;have vL:=hkv.lt;have HA:=ze ha;have HBN:=ze hbn;have HDN:=ze hden;have HVN:=ze hvn;have N1:=ze (HF.out.cell m K (Nat.le_refl _) hKl);have N2:=ze (HSC.out i him);have HDZ:Hid (T.den*z≠0):=by have:=HF.out.den;exact Int.mul_ne_zero (by omega) HZ0.out
         clear ha hbn hden hvn hblk hkv hsn t1 t2 o1;refine zq (S:=fun w' =>Hid (Below wr.heap.size wr w')/\w'.cell? ⟨F.g m,K*3,none⟩=some (.int .i64 ax)/\w'.cell? ⟨F.g m,K*3+1,none⟩=some (.slice aA an ac)/\w'.cell? ⟨F.g m,K*3+2,none⟩=some (.bool ag)/\w'.cell? ⟨gs,i*3,none⟩=some (.int .i64 bx)/\w'.cell? ⟨gs,i*3+1,none⟩=some (.slice bA bn bc)/\w'.cell? ⟨gs,i*3+2,none⟩=some (.bool bg)/\w'.cell? ⟨F.gt,4,none⟩=some (.int .i64 dx)/\w'.cell? ⟨F.gt,5,none⟩=some (.slice dA dn dc)/\w'.cell? ⟨F.gt,6,none⟩=some (.bool dg)/\w'.cell? ⟨gv,0,none⟩=some (.int .i64 vx)/\w'.cell? ⟨gv,1,none⟩=some (.slice vA vn vc)/\w'.cell? ⟨gv,2,none⟩=some (.bool vg)) 7 14 21 rfl (by kernel_rfl) (by kernel_rfl) (by kernel_rfl) rfl (zl (zz wr) (fun hB=>⟨zh hB aL a0,zh hB aL a1,zh hB aL a2,zh hB bL b0,zh hB bL b1,zh hB bL b2,zh hB tL d4,zh hB tL d5,zh hB tL d6,zh hB vL q0,zh hB vL q1,zh hB vL q2⟩)) ?_ (fun hHeld=>?_)
         . intro _ _ _ _ _ h9;exact h9
         simp only [List.take_succ_cons,List.take_zero]
         iterate 7 (refine zD (v:=?_) ?_ ?_;rotate_left;(focus (as_aux_lemma=>(intro w9 hSw;(try dsimp only at hSw);go_split_ands;go_simp;try with_reducible rfl)));try simp only [Act.put,List.setIfInBounds_toArray,List.set_cons_zero,List.set_cons_succ])
         refine zI ?_;refine HH.take 8 (oi:=_) (v:=?_) rfl (by kernel_rfl) (by kernel_rfl) (by kernel_rfl) (fun _ _ _ h=>h) (Or.inl ⟨by rfl,?_⟩) ‹_› ?_;rotate_left
         . (intro w9 hSw;(try dsimp only at hSw);go_split_ands;go_simp;try with_reducible rfl)
         try simp only [Act.put,List.getElem_toArray,List.getElem_cons_succ,List.getElem_cons_zero,List.setIfInBounds_toArray,List.set_cons_zero,List.set_cons_succ]
         refine HH.take 9 (oi:=_) (v:=?_) rfl (by kernel_rfl) (by kernel_rfl) (by kernel_rfl) (fun _ _ _ h=>h) (Or.inl ⟨by rfl,?_⟩) ‹_› ?_;rotate_left
         . (intro w9 hSw;(try dsimp only at hSw);go_split_ands;go_simp;try with_reducible rfl)
         try simp only [Act.put,List.getElem_toArray,List.getElem_cons_succ,List.getElem_cons_zero,List.setIfInBounds_toArray,List.set_cons_zero,List.set_cons_succ]
         refine HH.take 10 (oi:=_) (v:=?_) rfl (by kernel_rfl) (by kernel_rfl) (by kernel_rfl) (fun _ _ _ h=>h) (Or.inl ⟨by rfl,?_⟩) ‹_› ?_;rotate_left
         . (intro w9 hSw;(try dsimp only at hSw);go_split_ands;go_simp;try with_reducible rfl)
         try simp only [Act.put,List.getElem_toArray,List.getElem_cons_succ,List.getElem_cons_zero,List.setIfInBounds_toArray,List.set_cons_zero,List.set_cons_succ]
         refine HH.take 11 (oi:=_) (v:=?_) rfl (by kernel_rfl) (by kernel_rfl) (by kernel_rfl) (fun _ _ _ h=>h) (Or.inl ⟨by rfl,?_⟩) ‹_› ?_;rotate_left
         . (intro w9 hSw;(try dsimp only at hSw);go_split_ands;go_simp;try with_reducible rfl)
         try simp only [Act.put,List.getElem_toArray,List.getElem_cons_succ,List.getElem_cons_zero,List.setIfInBounds_toArray,List.set_cons_zero,List.set_cons_succ]
         refine HH.take 13 (oi:=_) (v:=?_) rfl (by kernel_rfl) (by kernel_rfl) (by kernel_rfl) (fun _ _ _ h=>h) (Or.inl ⟨by rfl,?_⟩) ‹_› ?_;rotate_left
         . (intro w9 hSw;(try dsimp only at hSw);go_split_ands;go_simp;try with_reducible rfl)
         try simp only [Act.put,List.getElem_toArray,List.getElem_cons_succ,List.getElem_cons_zero,List.setIfInBounds_toArray,List.set_cons_zero,List.set_cons_succ]
         refine HH.take 14 (oi:=_) (v:=?_) rfl (by kernel_rfl) (by kernel_rfl) (by kernel_rfl) (fun _ _ _ h=>h) (Or.inl ⟨by rfl,?_⟩) ‹_› ?_;rotate_left
         . (intro w9 hSw;(try dsimp only at hSw);go_split_ands;go_simp;try with_reducible rfl)
         try simp only [Act.put,List.getElem_toArray,List.getElem_cons_succ,List.getElem_cons_zero,List.setIfInBounds_toArray,List.set_cons_zero,List.set_cons_succ]
         refine HH.take 15 (oi:=_) (v:=?_) rfl (by kernel_rfl) (by kernel_rfl) (by kernel_rfl) (fun _ _ _ h=>h) (Or.inl ⟨by rfl,?_⟩) ‹_› ?_;rotate_left
         . (intro w9 hSw;(try dsimp only at hSw);go_split_ands;go_simp;try with_reducible rfl)
         try simp only [Act.put,List.getElem_toArray,List.getElem_cons_succ,List.getElem_cons_zero,List.setIfInBounds_toArray,List.set_cons_zero,List.set_cons_succ]
         refine HH.take 16 (oi:=_) (v:=?_) rfl (by kernel_rfl) (by kernel_rfl) (by kernel_rfl) (fun _ _ _ h=>h) (Or.inl ⟨by rfl,?_⟩) ‹_› ?_;rotate_left
         . (intro w9 hSw;(try dsimp only at hSw);go_split_ands;go_simp;try with_reducible rfl)
         try simp only [Act.put,List.getElem_toArray,List.getElem_cons_succ,List.getElem_cons_zero,List.setIfInBounds_toArray,List.set_cons_zero,List.set_cons_succ]
         refine HH.take 17 (oi:=_) (v:=?_) rfl (by kernel_rfl) (by kernel_rfl) (by kernel_rfl) (fun _ _ _ h=>h) (Or.inl ⟨by rfl,?_⟩) ‹_› ?_;rotate_left
         . (intro w9 hSw;(try dsimp only at hSw);go_split_ands;go_simp;try with_reducible rfl)
         try simp only [Act.put,List.getElem_toArray,List.getElem_cons_succ,List.getElem_cons_zero,List.setIfInBounds_toArray,List.set_cons_zero,List.set_cons_succ]
         refine HH.ready (rs:=[7]) (by kernel_rfl) (by simp) (by kernel_rfl) ?_;refine zu.cons (o:=_) rfl (fun K hK=>?_) zu.nil
         go_simp
         go_at_call 188;refine (yH _ _ _ (HA.out.below hHeld.1.out)).mono ?_;rintro e w2 ⟨v1,rfl,hv,hb2⟩;have HX1:=ze hv;clear hv;have hH0:=hHeld;clear hHeld;refine hK.out _ _ (zl (zt hb2 hH0.1) (fun hB=>⟨zh hB aL a0,zh hB aL a1,zh hB aL a2,zh hB bL b0,zh hB bL b1,zh hB bL b2,zh hB tL d4,zh hB tL d5,zh hB tL d6,zh hB vL q0,zh hB vL q1,zh hB vL q2⟩)) (fun hHeld=>?_);clear hH0 hK K
         try simp only [Act.put,List.setIfInBounds_toArray,List.set_cons_zero,List.set_cons_succ]
         clear hb2;refine HH.ready (rs:=[12]) (by kernel_rfl) (by simp) (by kernel_rfl) ?_;refine zu.cons (o:=_) rfl (fun K hK=>?_) zu.nil
         go_simp
         go_at_call 161;refine (xq _ _ _ _ _ HX1.out (HBN.out.below hHeld.1.out) (N1.out.neg.le2 (by omega)) (N2.out.le2 (by omega))).mono ?_;rintro e w3 ⟨v2,rfl,hv,hb2⟩;have HX2:=ze hv;clear hv HX1;have hH0:=hHeld;clear hHeld;refine hK.out _ _ (zl (zt hb2 hH0.1) (fun hB=>⟨zh hB aL a0,zh hB aL a1,zh hB aL a2,zh hB bL b0,zh hB bL b1,zh hB bL b2,zh hB tL d4,zh hB tL d5,zh hB tL d6,zh hB vL q0,zh hB vL q1,zh hB vL q2⟩)) (fun hHeld=>?_);clear hH0 hK K
         try simp only [Act.put,List.setIfInBounds_toArray,List.set_cons_zero,List.set_cons_succ]
         clear hb2;refine HH.ready (rs:=[18]) (by kernel_rfl) (by simp) (by kernel_rfl) ?_;refine zu.cons (o:=_) rfl (fun K hK=>?_) zu.nil
         go_simp
         go_at_call 161;refine (xq _ _ _ _ _ (HDN.out.below hHeld.1.out) (HVN.out.below hHeld.1.out) (HF.out.fden.le2 (by omega)) (HZ.out.le2 (by omega))).mono ?_;rintro e w4 ⟨v3,rfl,hv,hb2⟩;have HX3:=ze hv;replace HX2:=ze (HX2.out.below hb2);clear hv;have hH0:=hHeld;clear hHeld;refine hK.out _ _ (zl (zt hb2 hH0.1) (fun hB=>⟨zh hB aL a0,zh hB aL a1,zh hB aL a2,zh hB bL b0,zh hB bL b1,zh hB bL b2,zh hB tL d4,zh hB tL d5,zh hB tL d6,zh hB vL q0,zh hB vL q1,zh hB vL q2⟩)) (fun hHeld=>?_);clear hH0 hK K
         try simp only [Act.put,List.setIfInBounds_toArray,List.set_cons_zero,List.set_cons_succ]
         clear hb2;refine HH.ready (rs:=[19]) (by kernel_rfl) (by simp) (by kernel_rfl) ?_;refine zu.cons (o:=_) rfl (fun K hK=>?_) zu.nil
         go_simp
         go_at_call 112;refine (Z6 _ _ _ _ _ HX2.out HX3.out HDZ.out (Yo N1.out.neg N2.out (by omega)) (Yo HF.out.fden HZ.out (by omega))).mono ?_;rintro e w5 ⟨v4,rfl,hv,hb2⟩;have HX4:=ze hv;clear hv HX2 HX3;have hH0:=hHeld;clear hHeld;refine hK.out _ _ (zl (zt hb2 hH0.1) (fun hB=>⟨zh hB aL a0,zh hB aL a1,zh hB aL a2,zh hB bL b0,zh hB bL b1,zh hB bL b2,zh hB tL d4,zh hB tL d5,zh hB tL d6,zh hB vL q0,zh hB vL q1,zh hB vL q2⟩)) (fun hHeld=>?_);clear hH0 hK K
         try simp only [Act.put,List.setIfInBounds_toArray,List.set_cons_zero,List.set_cons_succ]
         clear hb2;refine HH.take 20 (oi:=_) (v:=?_) rfl (by kernel_rfl) (by kernel_rfl) (by kernel_rfl) (fun _ _ _ h=>h) (Or.inl ⟨by rfl,?_⟩) ‹_› ?_;rotate_left
         . (intro w9 hSw;(try dsimp only at hSw);go_split_ands;go_simp;try with_reducible rfl)
         try simp only [Act.put,List.getElem_toArray,List.getElem_cons_succ,List.getElem_cons_zero,List.setIfInBounds_toArray,List.set_cons_zero,List.set_cons_succ]
         have HBY:=(hHeld.1).out;replace HR:=ze (yK.below HR.out HBY);replace HV:=ze (vY.below HV.out HBY);replace HW:=eb_ HW HBY;clear HBY hHeld;refine HH.done (by kernel_rfl) ?_;simp only [List.drop_succ_cons,List.drop_zero];clear HA HBN HDN HVN N1 N2 a0 a1 a2 b0 b1 b2 d4 d5 d6 q0 q1 q2 tL aL bL vL HT HDZ;obtain ⟨x,A,n,c,s,y,B,n',c',t,rfl,hv1,hv2⟩:=HX4.out;obtain ⟨u0,u1,u2,u3,u4,u5,s0,s1,s2,s3,s4,s5⟩:=HR.out.slots him;have f0:=HR.out.frozen (i*6);have f1:=HR.out.frozen (i*6+1);have f2:=HR.out.frozen (i*6+2);have f3:=HR.out.frozen (i*6+3);have f4:=HR.out.frozen (i*6+4);have f5:=HR.out.frozen (i*6+5);have hcn:=Y0 (w:=w5) (g:=g) (k:=i) (x:=x) (s:=s) (A:=A) (n:=n) (c:=c) (y:=y) (t:=t) (B:=B) (n' :=n') (c' :=c')
         have HR2:Hid (yK (World.ratAt w5 g i x A n c s y B n' c' t) g m m (wtN T F.nn m sc z (k+1))):=HR.out.set him HX4.out (fun j hj=>by
          have hk:=HK.out;subst hk;have hi:=HI.out
          show (j=i/\(if T.other k=2*F.nn+j then _ else _)=_)\/(j≠i/\j<m/\(if T.other k=2*F.nn+j then _ else _)=_)
          by_cases e:j=i
          . exact .inl ⟨e,by subst e;rw [if_pos hi]⟩
          . exact .inr ⟨e,hj,by rw [if_neg (by omega)]⟩)
         have HV2:=ze (HV.out.chg hcn (by have:=HGG.out.2;omega) (fun b e=>by subst e;exact HR.out.noDig));have HW2:=ze (Xk HW.out hcn HGG.out.1);clear HR HV HW HX4 hcn hv1 hv2;go_wp2_with fail;go_roundw
         case rel=>first | exact ⟨k+1,by omega,by go_num,HR2,HV2,HW2⟩ | ((repeat apply Exists.intro);exact ⟨⟨k+1,by omega,by go_num,HR2,HV2,HW2⟩,rfl⟩)
         case measure=>simp [intOf];omega
       . obtain ⟨d,hd⟩:∃ d:Int,(T.other k:Int) - 2*(F.nn:Int)=d:=⟨_,rfl⟩
         have HR2:Hid (yK wr g m m (wtN T F.nn m sc z (k+1))):=HR.out.fewer (fun j hj=>⟨hj,by
          show (if T.other k=2*F.nn+j then _ else _)=_
          rw [if_neg (by omega)]⟩)
         rw [hd] at hws;clear HR
         by_cases h0:d ≥ 0
         . have d1:decide (d ≥ 0)=true:=decide_eq_true h0
           have d2:decide (d<(m:Int))=false:=decide_eq_false (by omega);clear hin hob h0;go_wp2_with fail;go_roundw
           case rel=>exact ⟨k+1,by omega,by go_num,HR2,HV,HW⟩
           case measure=>simp [intOf];omega
         . have d1:decide (d ≥ 0)=false:=decide_eq_false h0
           clear hin hob h0;go_wp2_with fail;go_roundw
           case rel=>exact ⟨k+1,by omega,by go_num,HR2,HV,HW⟩
           case measure=>simp [intOf];omega
     . obtain rfl:k=L - 1:=by omega
       go_wp2_with fail;go_ret;exact ⟨g,rfl,HR.out,HW.out⟩
end Go.Proofs.YtnpbflhjglkokaaGreatDoor
