/- Parts of the proof: memory, numbers, walks of the functions that are called. -/
import Derived.Deep.CutRange
import Derived.Test.YtkmcmmcencdcpaaGreatDoorMt20
set_option linter.unusedVariables false
set_option linter.unusedSimpArgs false
set_option maxRecDepth 100000
set_option maxHeartbeats 32000000
namespace Go.Proofs.YtkmcmmcencdcpaaGreatDoor
open Go.RowKit Go.Deep
attribute [local go_sem ↓] Go.wp_at_zero Go.wp_at_succ
theorem Fit.le2 {z:Int} (h:Fit z) {M:Nat} (hM:8388608<=M):len 4294967296 z.natAbs<=M:=Nat.le_trans h hM
theorem Fit.neg {z:Int} (h:Fit z):Fit (-z):=by unfold Fit;rw [Int.natAbs_neg];exact h
theorem Y6 {a b:Int} (ha:Fit a) (hb:Fit b) {M:Nat} (hM:16777216<=M):len 4294967296 (a*b).natAbs<=M:=Nat.le_trans (Z6 (M:=8388608) (K:=8388608) ha hb) hM
theorem zbb (x y:Int):(x<y/\zK x y= -1)\/(x=y/\zK x y=0)\/(y<x/\zK x y=1):=by
 unfold zK
 rcases Int.lt_trichotomy x y with h | h | h
 . exact .inl ⟨h,by rw [if_pos h]⟩
 . exact .inr (.inl ⟨h,by rw [if_neg (by omega),if_neg (by omega)]⟩)
 . exact .inr (.inr ⟨h,by rw [if_neg (by omega),if_pos h]⟩)
theorem zcl {z:Int}:(zK z 0 ≥ 0)↔0<=z:=by
 rcases zbb z 0 with h | h | h<;>omega
def zf5:Option Nat->Int
 | none=> -1
 | some j=>(j:Int)
section
variable {T:yy} {room c n j:Nat}
theorem yy.leave_pos (h:0<=T.cell n c):T.leave room c (n+1)=T.leave room c n:=by
 show (if _ then _ else _)=_
 rw [if_pos h]
theorem yy.leave_none (h:¬ 0<=T.cell n c) (hn:T.leave room c n=none):T.leave room c (n+1)=some n:=by
 show (if _ then _ else match T.leave room c n with | none=>_ | some j=>_)=_
 rw [if_neg h,hn]
theorem yy.leave_yes (h:¬ 0<=T.cell n c) (hn:T.leave room c n=some j) (ha:T.ahead room c n j):T.leave room c (n+1)=some n:=by
 show (if _ then _ else match T.leave room c n with | none=>_ | some j=>_)=_
 rw [if_neg h,hn]
 exact if_pos ha
theorem yy.leave_no (h:¬ 0<=T.cell n c) (hn:T.leave room c n=some j) (ha:¬ T.ahead room c n j):T.leave room c (n+1)=some j:=by
 show (if _ then _ else match T.leave room c n with | none=>_ | some j=>_)=_
 rw [if_neg h,hn]
 exact if_neg ha
end
theorem zce (base m L:Nat) (F:zS) (T:yy) (w:World) (hT:yb base m L F w T) (hm:m<=100000) (hL:L<=100000):
 Calls Tryz.prog 139 #[.pointer (some ⟨F.gt,0,none⟩)] w (Vc w (.int .i64 ((2*F.nn+m:Nat):Int))):=by
 have t1:=hT.cell1
 have t2:=hT.cell2
 have hc:=hT.cols
 have h1:IntKind.i64.wrap (2*(F.nn:Int))=2*(F.nn:Int):=by rw [IntKind.wrap_i64];omega
 have h2:IntKind.i64.wrap (2*(F.nn:Int)+(m:Int))=2*(F.nn:Int)+(m:Int):=by rw [IntKind.wrap_i64];omega
 clear hT hc
 go_enter Tryz.func139,Tryz.ntmps139
 go_upto_region 1 with fail
 go_region
 go_wp2_with fail
 go_ret
 exact ⟨by push_cast;rfl,(zv w).out⟩
def LvR (w0:World) (base m L:Nat) (F:zS) (T:yy) (c:Nat) (bv iv:Value) (wr:World):Prop:=
 ∃ i:Nat,i<=m/\iv= .int .i64 (i:Nat)/\bv= .int .i64 (zf5 (T.leave (2*F.nn+m) c i))/\Hid (yb base m L F wr T)/\Hid (Below w0.heap.size w0 wr)
theorem XP (base m L:Nat) (F:zS) (T:yy) (c:Nat) (w:World) (hT:yb base m L F w T) (hf:T.Fits m L) (hc:c<L) (hm:m<=100000) (hL:L<=100000):
 Calls Tryz.prog 190 #[.pointer (some ⟨F.gt,0,none⟩),.int .i64 c] w (Vc w (.int .i64 (zf5 (T.leave (2*F.nn+m) c m)))):=by
 have t1:=hT.cell1
 have HT:=ze hT
 have HF:=ze hf
 have HL2:=ze hT.lt2
 have hL1:0<L:=by have:=HL2.out;omega
 have hci:(c:Int)<(L:Int):=by omega
 have hL0:(0:Int)<(L:Int):=by omega
 have HROOM:=ze (fun w' (h:yb base m L F w' T)=>zce base m L F T w' h hm hL)
 obtain ⟨rm,HRM⟩:∃ rm:Nat,Hid (2*F.nn+m=rm):=⟨_,rfl⟩
 rw [HRM.out] at HROOM |-
 have HW:=ze (xw w)
 clear hT hf
 go_enter Tryz.func190,Tryz.ntmps190
 go_wp2_with fail
 go_loopw [5,15] (LvR w base m L F T c) (fun _ iv _=>m - (intOf iv).toNat)
 case atStart=>exact ⟨0,Nat.zero_le _,rfl,rfl,HT,HW⟩
 case round=>
  clear HT HW t1
  obtain ⟨i,hi,rfl,rfl,HT,HW⟩:=hrel
  rw [HRM.out]
  by_cases hil:i<m
  . have hii:(i:Int)<(m:Int):=by omega
    have hi1:(i:Int)<(m:Int)+1:=by omega
    have t3:=HT.out.cell3;have t4:=HT.out.mat.cell (i:=i) (by omega);obtain ⟨ax,aA,an,ac,ag,a0,a1,a2,ha⟩:=HT.out.mat.at_ (i:=i) (k:=c) (by omega) hc;obtain ⟨sg,hsg⟩:∃ sg:Int,zK (T.cell i c) 0=sg:=⟨_,rfl⟩;have hcp:=zcl (z:=T.cell i c);have hsi:=Yr _ _ wr ha;rw [hsg] at hcp hsi;have HSI:=ze hsi;clear hsg ha hsi
    by_cases hp:0<=T.cell i c
    . have d1:decide (sg ≥ 0)=true:=decide_eq_true (hcp.2 hp)
      have HEN:Hid (T.leave rm c (i+1)=T.leave rm c i):=T.leave_pos hp;clear hcp hp;go_wp2_with fail;refine HSI.out.mono ?_;rintro e w1 ⟨rfl,hb1⟩;replace HT:=ze (HT.out.below hb1);replace HW:=eb_ HW hb1;clear hb1 HSI t3 t4 a0 a1 a2;go_wp2_with fail;go_roundw
      case rel=>exact ⟨i+1,by omega,by go_num,by rw [HRM.out,HEN.out],HT,HW⟩
      case measure=>simp [intOf];omega
    . have d1:decide (sg ≥ 0)=false:=decide_eq_false (fun h=>hp (hcp.1 h))
      have HP:Hid (T.cell i c<0):=Int.not_le.1 hp;clear hcp hp
      cases hlv:T.leave rm c i with
      | none=>
        have HEN:Hid (T.leave rm c (i+1)=some i):=T.leave_none (Int.not_le.2 HP.out) hlv;have d2:decide (zf5 none<0)=true:=by decide
        have d3:zf5 none= -1:=rfl;clear hlv;go_wp2_with fail;refine HSI.out.mono ?_;rintro e w1 ⟨rfl,hb1⟩;replace HT:=ze (HT.out.below hb1);replace HW:=eb_ HW hb1;clear hb1 HSI t3 t4 a0 a1 a2;go_wp2_with fail;go_roundw
        case rel=>exact ⟨i+1,by omega,by go_num,(by rw [HRM.out,HEN.out];rfl),HT,HW⟩
        case measure=>simp [intOf];omega
      | some j=>
        have hjl:=T.leave_lt rm c i j hlv;have hj1:(j:Int)<(m:Int)+1:=by omega
        have hj0:(0:Int)<=(j:Int):=by omega
        have d2:decide ((j:Int)<0)=false:=by rw [decide_eq_false_iff_not];omega
        have d3:zf5 (some j)=(j:Int):=rfl;have HLV:=ze hlv;clear hlv;rw [d3];go_wp2_with fail;refine HSI.out.mono ?_;rintro e w1 ⟨rfl,hb1⟩;replace HT:=ze (HT.out.below hb1);replace HW:=eb_ HW hb1;clear hb1 HSI t3 t4 a0 a1 a2 d3;have t3:=HT.out.cell3;have t4:=HT.out.mat.cell (i:=j) (by omega)
        skip
        go_upto_region 10 with fail
        clear t3 t4;obtain ⟨ax,aA,an,ac,ag,a0,a1,a2,ha⟩:=HT.out.mat.at_ (i:=i) (k:=c) (by omega) hc;obtain ⟨bx,bA,bn,bc,bg,b0,b1,b2,hbn⟩:=HT.out.mat.at_ (i:=j) (k:=c) (by omega) hc;obtain ⟨cx,cA,cn,cc,cg,c0,c1,c2,hcn⟩:=HT.out.mat.at_ (i:=i) (k:=0) (by omega) (by omega);obtain ⟨ex,eA,en,ec,eg,e0,e1,e2,hen⟩:=HT.out.mat.at_ (i:=j) (k:=0) (by omega) (by omega);simp only [Nat.zero_mul,Nat.zero_add] at c0 c1 c2 e0 e1 e2;have aL:=(HT.out.mat.rows i (by omega)).2.lt;have bL:=(HT.out.mat.rows j (by omega)).2.lt;have HA:=ze ha;have HBN:=ze hbn;have HCN:=ze hcn;have HEN0:=ze hen;have N1:=ze (HF.out.cell i c (by omega) hc);have N2:=ze (HF.out.cell j c (by omega) hc);have N3:=ze (HF.out.cell i 0 (by omega) (by omega));have N4:=ze (HF.out.cell j 0 (by omega) (by omega));clear ha hbn hcn hen
        refine zr (S:=fun w' =>Hid (Below w1.heap.size w1 w')/\w'.cell? ⟨F.g i,c*3,none⟩=some (.int .i64 ax)/\w'.cell? ⟨F.g i,c*3+1,none⟩=some (.slice aA an ac)/\w'.cell? ⟨F.g i,c*3+2,none⟩=some (.bool ag)/\w'.cell? ⟨F.g j,c*3,none⟩=some (.int .i64 bx)/\w'.cell? ⟨F.g j,c*3+1,none⟩=some (.slice bA bn bc)/\w'.cell? ⟨F.g j,c*3+2,none⟩=some (.bool bg)/\w'.cell? ⟨F.g i,0,none⟩=some (.int .i64 cx)/\w'.cell? ⟨F.g i,1,none⟩=some (.slice cA cn cc)/\w'.cell? ⟨F.g i,2,none⟩=some (.bool cg)/\w'.cell? ⟨F.g j,0,none⟩=some (.int .i64 ex)/\w'.cell? ⟨F.g j,1,none⟩=some (.slice eA en ec)/\w'.cell? ⟨F.g j,2,none⟩=some (.bool eg)) 7 12 19 rfl (by kernel_rfl) (by kernel_rfl) (by kernel_rfl) rfl (zm (zv w1) (fun hB=>⟨zh hB aL a0,zh hB aL a1,zh hB aL a2,zh hB bL b0,zh hB bL b1,zh hB bL b2,zh hB aL c0,zh hB aL c1,zh hB aL c2,zh hB bL e0,zh hB bL e1,zh hB bL e2⟩)) ?_ (fun hHeld=>?_)
        . intro _ _ _ _ _ h9;exact h9
        simp only [List.take_succ_cons,List.take_zero]
        iterate 7 refine zW ?_
        refine zM ?_;refine HH.tk 9 ?_;refine HH.tk 10 ?_;refine HH.tk 11 ?_;refine HH.tk 12 ?_;refine HH.tk 13 ?_;refine HH.tk 14 ?_;refine HH.tk 15 ?_;refine HH.rd 7 (fun K hK=>?_)
        go_simp
        go_at_call 161;refine (yW _ _ _ (HBN.out.below hHeld.1.out)).mono ?_;rintro e w2 ⟨v1,rfl,hv,hb2⟩;have HX1:=ze hv;clear hv;have hH0:=hHeld;clear hHeld;refine hK.out _ _ (zm (zt hb2 hH0.1) (fun hB=>⟨zh hB aL a0,zh hB aL a1,zh hB aL a2,zh hB bL b0,zh hB bL b1,zh hB bL b2,zh hB aL c0,zh hB aL c1,zh hB aL c2,zh hB bL e0,zh hB bL e1,zh hB bL e2⟩)) (fun hHeld=>?_);clear hH0 hK K
        try simp only [Act.put,List.setIfInBounds_toArray,List.set_cons_zero,List.set_cons_succ]
        clear hb2;refine HH.rd 8 (fun K hK=>?_)
        go_simp
        go_at_call 130;refine (x7 _ _ _ _ _ (HCN.out.below hHeld.1.out) HX1.out (N3.out.le2 (by omega)) (N2.out.neg.le2 (by omega))).mono ?_;rintro e w3 ⟨v2,rfl,hv,hb2⟩;have HX2:=ze hv;clear hv HX1;have hH0:=hHeld;clear hHeld;refine hK.out _ _ (zm (zt hb2 hH0.1) (fun hB=>⟨zh hB aL a0,zh hB aL a1,zh hB aL a2,zh hB bL b0,zh hB bL b1,zh hB bL b2,zh hB aL c0,zh hB aL c1,zh hB aL c2,zh hB bL e0,zh hB bL e1,zh hB bL e2⟩)) (fun hHeld=>?_);clear hH0 hK K
        try simp only [Act.put,List.setIfInBounds_toArray,List.set_cons_zero,List.set_cons_succ]
        clear hb2;refine HH.rd 16 (fun K hK=>?_)
        go_simp
        go_at_call 161;refine (yW _ _ _ (HA.out.below hHeld.1.out)).mono ?_;rintro e w4 ⟨v3,rfl,hv,hb2⟩;have HX3:=ze hv;replace HX2:=ze (HX2.out.below hb2);clear hv;have hH0:=hHeld;clear hHeld;refine hK.out _ _ (zm (zt hb2 hH0.1) (fun hB=>⟨zh hB aL a0,zh hB aL a1,zh hB aL a2,zh hB bL b0,zh hB bL b1,zh hB bL b2,zh hB aL c0,zh hB aL c1,zh hB aL c2,zh hB bL e0,zh hB bL e1,zh hB bL e2⟩)) (fun hHeld=>?_);clear hH0 hK K
        try simp only [Act.put,List.setIfInBounds_toArray,List.set_cons_zero,List.set_cons_succ]
        clear hb2;refine HH.rd 17 (fun K hK=>?_)
        go_simp
        go_at_call 130;refine (x7 _ _ _ _ _ (HEN0.out.below hHeld.1.out) HX3.out (N4.out.le2 (by omega)) (N1.out.neg.le2 (by omega))).mono ?_;rintro e w5 ⟨v4,rfl,hv,hb2⟩;have HX4:=ze hv;replace HX2:=ze (HX2.out.below hb2);clear hv HX3;have hH0:=hHeld;clear hHeld;refine hK.out _ _ (zm (zt hb2 hH0.1) (fun hB=>⟨zh hB aL a0,zh hB aL a1,zh hB aL a2,zh hB bL b0,zh hB bL b1,zh hB bL b2,zh hB aL c0,zh hB aL c1,zh hB aL c2,zh hB bL e0,zh hB bL e1,zh hB bL e2⟩)) (fun hHeld=>?_);clear hH0 hK K
        try simp only [Act.put,List.setIfInBounds_toArray,List.set_cons_zero,List.set_cons_succ]
        clear hb2;refine HH.rd 18 (fun K hK=>?_)
        go_simp
        go_at_call 129;refine (zco _ _ _ _ _ HX2.out HX4.out (Y6 N3.out N2.out.neg (by omega)) (Y6 N4.out N1.out.neg (by omega))).mono ?_;rintro e w6 ⟨rfl,hb2⟩;have hH0:=hHeld;clear hHeld;refine hK.out _ _ (zm (zt hb2 hH0.1) (fun hB=>⟨zh hB aL a0,zh hB aL a1,zh hB aL a2,zh hB bL b0,zh hB bL b1,zh hB bL b2,zh hB aL c0,zh hB aL c1,zh hB aL c2,zh hB bL e0,zh hB bL e1,zh hB bL e2⟩)) (fun hHeld=>?_);clear hH0 hK K
        try simp only [Act.put,List.setIfInBounds_toArray,List.set_cons_zero,List.set_cons_succ]
        clear hb2 HX2 HX4;have HBY:=(hHeld.1).out;replace HT:=ze (yb.below HT.out HBY);replace HW:=eb_ HW HBY;clear HBY hHeld;refine HH.done (by kernel_rfl) ?_;simp only [List.drop_succ_cons,List.drop_zero];clear HA HBN HCN HEN0 N1 N2 N3 N4 a0 a1 a2 b0 b1 b2 c0 c1 c2 e0 e1 e2 aL bL;obtain ⟨cv,hcv⟩:∃ cv:Int,zK (T.cell i 0* -(T.cell j c)) (T.cell j 0* -(T.cell i c))=cv:=⟨_,rfl⟩;have hcc:=zbb (T.cell i 0* -(T.cell j c)) (T.cell j 0* -(T.cell i c));rw [hcv] at hcc |-;clear hcv
        go_upto_region 11 with fail
        skip
        have tL:=HT.out.lt;obtain ⟨gb,cb,eb,hgb,hbc⟩:=HT.out.basics (by omega);have t7:=HT.out.cell7;rw [eb] at t7;have o1:=hbc i hil;have o2:=hbc j (by omega);have hjm:(j:Int)<(m:Int):=by omega
        rcases hcc with ⟨hcc,rfl⟩ | ⟨hcc,rfl⟩ | ⟨hcc,rfl⟩
        . have HEN:Hid (T.leave rm c (i+1)=some i):=T.leave_yes (Int.not_le.2 HP.out) HLV.out (.inl hcc)
          clear hcc;refine zr (S:=fun w' =>Hid (Below w6.heap.size w6 w')/\w'.cell? ⟨F.gt,7,none⟩=some (.slice (some ⟨gb,0,none⟩) m cb)/\w'.cell? ⟨gb,i,none⟩=some (.int .i64 (T.basic i:Nat))/\w'.cell? ⟨gb,j,none⟩=some (.int .i64 (T.basic j:Nat))) 3 43 46 rfl (by kernel_rfl) (by kernel_rfl) (by kernel_rfl) rfl (zm (zv w6) (fun hB=>⟨zh hB tL t7,zh hB hgb o1,zh hB hgb o2⟩)) ?_ (fun hHeld=>?_)
          . intro _ _ _ _ _ h9;exact h9
          simp only [List.take_succ_cons,List.take_zero]
          iterate 3 refine zW ?_
          refine zM ?_;refine HH.sk 3 ?_;refine HH.sk 4 ?_;refine HH.sk 5 ?_;refine HH.sk 6 ?_;refine HH.sk 7 ?_;refine HH.sk 8 ?_;refine HH.sk 9 ?_;refine HH.sk 10 ?_;refine HH.sk 11 ?_;refine HH.sk 12 ?_;refine HH.sk 13 ?_;refine HH.sk 14 ?_;refine HH.sk 15 ?_;refine HH.sk 16 ?_;refine HH.sk 17 ?_;refine HH.sk 18 ?_;refine HH.sk 19 ?_;refine HH.sk 20 ?_;refine HH.sk 21 ?_;refine HH.sk 22 ?_;refine HH.sk 23 ?_;refine HH.sk 24 ?_;refine HH.sk 25 ?_;refine HH.sk 26 ?_;refine HH.sk 27 ?_;refine HH.sk 28 ?_;refine HH.sk 29 ?_;refine HH.sk 30 ?_;refine HH.sk 31 ?_;refine HH.sk 32 ?_;refine HH.sk 33 ?_;refine HH.sk 34 ?_;refine HH.sk 35 ?_;refine HH.sk 36 ?_;refine HH.sk 37 ?_;refine HH.sk 38 ?_;refine HH.sk 39 ?_;refine HH.sk 40 ?_;refine HH.sk 41 ?_;refine HH.sk 42 ?_;refine HH.sk 43 ?_;refine HH.sk 44 ?_;refine HH.sk 45 ?_;have HBY:=(hHeld.1).out;replace HT:=ze (yb.below HT.out HBY);replace HW:=eb_ HW HBY;clear HBY hHeld;refine HH.done (by kernel_rfl) ?_;simp only [List.drop_succ_cons,List.drop_zero];clear t7 o1 o2 tL hgb hbc;go_wp2_with fail;go_roundw
          case rel=>exact ⟨i+1,by omega,by go_num,(by rw [HRM.out,HEN.out];rfl),HT,HW⟩
          case measure=>simp [intOf];omega
        . by_cases h3:T.basic i=rm
          . have HEN:Hid (T.leave rm c (i+1)=some i):=T.leave_yes (Int.not_le.2 HP.out) HLV.out (.inr ⟨hcc,.inl h3⟩)
            have d4:((T.basic i:Int) == (rm:Int))=true:=by rw [beq_iff_eq];omega
            clear hcc h3;refine zr (S:=fun w' =>Hid (Below w6.heap.size w6 w')/\w'.cell? ⟨F.gt,7,none⟩=some (.slice (some ⟨gb,0,none⟩) m cb)/\w'.cell? ⟨gb,i,none⟩=some (.int .i64 (T.basic i:Nat))/\w'.cell? ⟨gb,j,none⟩=some (.int .i64 (T.basic j:Nat))) 3 43 46 rfl (by kernel_rfl) (by kernel_rfl) (by kernel_rfl) rfl (zm (zv w6) (fun hB=>⟨zh hB tL t7,zh hB hgb o1,zh hB hgb o2⟩)) ?_ (fun hHeld=>?_)
            . intro _ _ _ _ _ h9;exact h9
            simp only [List.take_succ_cons,List.take_zero]
            iterate 3 refine zW ?_
            refine zM ?_;refine HH.tk 3 ?_;refine HH.tk 4 ?_;refine HH.tk 5 ?_;refine HH.tk 6 ?_;refine HH.tk 7 ?_;refine HH.tk 8 ?_;refine HH.tk 9 ?_;refine HH.tk 10 ?_;refine HH.tk 11 ?_;refine HH.tk 12 ?_;refine HH.tk 13 ?_;refine HH.rd 14 (fun K hK=>?_);rw [if_pos (by rfl)]
            go_simp
            go_at_call 139;refine (HROOM.out _ (HT.out.below hHeld.1.out)).mono ?_;rintro e w7 ⟨rfl,hb2⟩;have hH0:=hHeld;clear hHeld;refine hK.out _ _ (zm (zt hb2 hH0.1) (fun hB=>⟨zh hB tL t7,zh hB hgb o1,zh hB hgb o2⟩)) (fun hHeld=>?_);clear hH0 hK K
            try simp only [Act.put,List.setIfInBounds_toArray,List.set_cons_zero,List.set_cons_succ]
            clear hb2;refine HH.tk 15 ?_;refine HH.tk 16 ?_;refine HH.sk 17 ?_;refine HH.sk 18 ?_;refine HH.sk 19 ?_;refine HH.sk 20 ?_;refine HH.sk 21 ?_;refine HH.sk 22 ?_;refine HH.sk 23 ?_;refine HH.sk 24 ?_;refine HH.sk 25 ?_;refine HH.sk 26 ?_;refine HH.sk 27 ?_;refine HH.sk 28 ?_;refine HH.sk 29 ?_;refine HH.sk 30 ?_;refine HH.sk 31 ?_;refine HH.sk 32 ?_;refine HH.sk 33 ?_;refine HH.sk 34 ?_;refine HH.sk 35 ?_;refine HH.sk 36 ?_;refine HH.sk 37 ?_;refine HH.sk 38 ?_;refine HH.sk 39 ?_;refine HH.sk 40 ?_;refine HH.sk 41 ?_;refine HH.sk 42 ?_;refine HH.sk 43 ?_;refine HH.tk 44 ?_;refine HH.tk 45 ?_;have HBY:=(hHeld.1).out;replace HT:=ze (yb.below HT.out HBY);replace HW:=eb_ HW HBY;clear HBY hHeld;refine HH.done (by kernel_rfl) ?_;simp only [List.drop_succ_cons,List.drop_zero];clear t7 o1 o2 tL hgb hbc;go_wp2_with fail;go_roundw
            case rel=>exact ⟨i+1,by omega,by go_num,(by rw [HRM.out,HEN.out];rfl),HT,HW⟩
            case measure=>simp [intOf];omega
          . have d4:((T.basic i:Int) == (rm:Int))=false:=by rw [beq_eq_false_iff_ne];omega
            by_cases h4:T.basic j=rm
            . have HEN:Hid (T.leave rm c (i+1)=some j):=T.leave_no (Int.not_le.2 HP.out) HLV.out (fun h=>by
               rcases h with h | ⟨_,h | ⟨h,_⟩⟩
               . omega
               . exact h3 h
               . exact h h4)
              have d5:((T.basic j:Int) != (rm:Int))=false:=by rw [bne_eq_false_iff_eq];omega
              clear hcc h3 h4;refine zr (S:=fun w' =>Hid (Below w6.heap.size w6 w')/\w'.cell? ⟨F.gt,7,none⟩=some (.slice (some ⟨gb,0,none⟩) m cb)/\w'.cell? ⟨gb,i,none⟩=some (.int .i64 (T.basic i:Nat))/\w'.cell? ⟨gb,j,none⟩=some (.int .i64 (T.basic j:Nat))) 3 43 46 rfl (by kernel_rfl) (by kernel_rfl) (by kernel_rfl) rfl (zm (zv w6) (fun hB=>⟨zh hB tL t7,zh hB hgb o1,zh hB hgb o2⟩)) ?_ (fun hHeld=>?_)
              . intro _ _ _ _ _ h9;exact h9
              simp only [List.take_succ_cons,List.take_zero]
              iterate 3 refine zW ?_
              refine zM ?_;refine HH.tk 3 ?_;refine HH.tk 4 ?_;refine HH.tk 5 ?_;refine HH.tk 6 ?_;refine HH.tk 7 ?_;refine HH.tk 8 ?_;refine HH.tk 9 ?_;refine HH.tk 10 ?_;refine HH.tk 11 ?_;refine HH.tk 12 ?_;refine HH.tk 13 ?_;refine HH.rd 14 (fun K hK=>?_);rw [if_pos (by rfl)]
              go_simp
              go_at_call 139;refine (HROOM.out _ (HT.out.below hHeld.1.out)).mono ?_;rintro e w7 ⟨rfl,hb2⟩;have hH0:=hHeld;clear hHeld;refine hK.out _ _ (zm (zt hb2 hH0.1) (fun hB=>⟨zh hB tL t7,zh hB hgb o1,zh hB hgb o2⟩)) (fun hHeld=>?_);clear hH0 hK K
              try simp only [Act.put,List.setIfInBounds_toArray,List.set_cons_zero,List.set_cons_succ]
              clear hb2;refine HH.tk 15 ?_;refine HH.tk 16 ?_;refine HH.tk 17 ?_;refine HH.tk 18 ?_;refine HH.tk 19 ?_;refine HH.tk 20 ?_;refine HH.tk 21 ?_;refine HH.tk 22 ?_;refine HH.tk 23 ?_;refine HH.tk 24 ?_;refine HH.rd 25 (fun K hK=>?_);rw [if_pos (by rfl)]
              go_simp
              go_at_call 139;refine (HROOM.out _ (HT.out.below hHeld.1.out)).mono ?_;rintro e w8 ⟨rfl,hb2⟩;have hH0:=hHeld;clear hHeld;refine hK.out _ _ (zm (zt hb2 hH0.1) (fun hB=>⟨zh hB tL t7,zh hB hgb o1,zh hB hgb o2⟩)) (fun hHeld=>?_);clear hH0 hK K
              try simp only [Act.put,List.setIfInBounds_toArray,List.set_cons_zero,List.set_cons_succ]
              clear hb2;refine HH.tk 26 ?_;refine HH.tk 27 ?_;refine HH.sk 28 ?_;refine HH.sk 29 ?_;refine HH.sk 30 ?_;refine HH.sk 31 ?_;refine HH.sk 32 ?_;refine HH.sk 33 ?_;refine HH.sk 34 ?_;refine HH.sk 35 ?_;refine HH.sk 36 ?_;refine HH.sk 37 ?_;refine HH.sk 38 ?_;refine HH.sk 39 ?_;refine HH.sk 40 ?_;refine HH.sk 41 ?_;refine HH.sk 42 ?_;refine HH.tk 43 ?_;refine HH.tk 44 ?_;refine HH.tk 45 ?_;have HBY:=(hHeld.1).out;replace HT:=ze (yb.below HT.out HBY);replace HW:=eb_ HW HBY;clear HBY hHeld;refine HH.done (by kernel_rfl) ?_;simp only [List.drop_succ_cons,List.drop_zero];clear t7 o1 o2 tL hgb hbc;go_wp2_with fail;go_roundw
              case rel=>exact ⟨i+1,by omega,by go_num,(by rw [HRM.out,HEN.out];rfl),HT,HW⟩
              case measure=>simp [intOf];omega
            . have d5:((T.basic j:Int) != (rm:Int))=true:=by rw [bne_iff_ne];omega
              by_cases h5:T.basic i<T.basic j
              . have HEN:Hid (T.leave rm c (i+1)=some i):=T.leave_yes (Int.not_le.2 HP.out) HLV.out (.inr ⟨hcc,.inr ⟨h4,h5⟩⟩)
                have d6:decide ((T.basic i:Int)<(T.basic j:Int))=true:=by rw [decide_eq_true_iff];omega
                have d7:decide (T.basic i<T.basic j)=true:=decide_eq_true h5;clear hcc h3 h4;refine zr (S:=fun w' =>Hid (Below w6.heap.size w6 w')/\w'.cell? ⟨F.gt,7,none⟩=some (.slice (some ⟨gb,0,none⟩) m cb)/\w'.cell? ⟨gb,i,none⟩=some (.int .i64 (T.basic i:Nat))/\w'.cell? ⟨gb,j,none⟩=some (.int .i64 (T.basic j:Nat))) 3 43 46 rfl (by kernel_rfl) (by kernel_rfl) (by kernel_rfl) rfl (zm (zv w6) (fun hB=>⟨zh hB tL t7,zh hB hgb o1,zh hB hgb o2⟩)) ?_ (fun hHeld=>?_)
                . intro _ _ _ _ _ h9;exact h9
                simp only [List.take_succ_cons,List.take_zero]
                iterate 3 refine zW ?_
                refine zM ?_;refine HH.tk 3 ?_;refine HH.tk 4 ?_;refine HH.tk 5 ?_;refine HH.tk 6 ?_;refine HH.tk 7 ?_;refine HH.tk 8 ?_;refine HH.tk 9 ?_;refine HH.tk 10 ?_;refine HH.tk 11 ?_;refine HH.tk 12 ?_;refine HH.tk 13 ?_;refine HH.rd 14 (fun K hK=>?_);rw [if_pos (by rfl)]
                go_simp
                go_at_call 139;refine (HROOM.out _ (HT.out.below hHeld.1.out)).mono ?_;rintro e w7 ⟨rfl,hb2⟩;have hH0:=hHeld;clear hHeld;refine hK.out _ _ (zm (zt hb2 hH0.1) (fun hB=>⟨zh hB tL t7,zh hB hgb o1,zh hB hgb o2⟩)) (fun hHeld=>?_);clear hH0 hK K
                try simp only [Act.put,List.setIfInBounds_toArray,List.set_cons_zero,List.set_cons_succ]
                clear hb2;refine HH.tk 15 ?_;refine HH.tk 16 ?_;refine HH.tk 17 ?_;refine HH.tk 18 ?_;refine HH.tk 19 ?_;refine HH.tk 20 ?_;refine HH.tk 21 ?_;refine HH.tk 22 ?_;refine HH.tk 23 ?_;refine HH.tk 24 ?_;refine HH.rd 25 (fun K hK=>?_);rw [if_pos (by rfl)]
                go_simp
                go_at_call 139;refine (HROOM.out _ (HT.out.below hHeld.1.out)).mono ?_;rintro e w8 ⟨rfl,hb2⟩;have hH0:=hHeld;clear hHeld;refine hK.out _ _ (zm (zt hb2 hH0.1) (fun hB=>⟨zh hB tL t7,zh hB hgb o1,zh hB hgb o2⟩)) (fun hHeld=>?_);clear hH0 hK K
                try simp only [Act.put,List.setIfInBounds_toArray,List.set_cons_zero,List.set_cons_succ]
                clear hb2;refine HH.tk 26 ?_;refine HH.tk 27 ?_;refine HH.tk 28 ?_;refine HH.tk 29 ?_;refine HH.tk 30 ?_;refine HH.tk 31 ?_;refine HH.tk 32 ?_;refine HH.tk 33 ?_;refine HH.tk 34 ?_;refine HH.tk 35 ?_;refine HH.tk 36 ?_;refine HH.tk 37 ?_;refine HH.tk 38 ?_;refine HH.tk 39 ?_;refine HH.tk 40 ?_;refine HH.tk 41 ?_;refine HH.tk 42 ?_;refine HH.tk 43 ?_;refine HH.tk 44 ?_;refine HH.tk 45 ?_;have HBY:=(hHeld.1).out;replace HT:=ze (yb.below HT.out HBY);replace HW:=eb_ HW HBY;clear HBY hHeld;refine HH.done (by kernel_rfl) ?_;simp only [List.drop_succ_cons,List.drop_zero];clear t7 o1 o2 tL hgb hbc;go_wp2_with fail;go_roundw
                case rel=>exact ⟨i+1,by omega,by go_num,(by rw [HRM.out,HEN.out];rfl),HT,HW⟩
                case measure=>simp [intOf];omega
              . have HEN:Hid (T.leave rm c (i+1)=some j):=T.leave_no (Int.not_le.2 HP.out) HLV.out (fun h=>by
                 rcases h with h | ⟨_,h | ⟨_,h⟩⟩
                 . omega
                 . exact h3 h
                 . exact h5 h)
                have d6:decide ((T.basic i:Int)<(T.basic j:Int))=false:=by rw [decide_eq_false_iff_not];omega
                have d7:decide (T.basic i<T.basic j)=false:=decide_eq_false h5;clear hcc h3 h4;refine zr (S:=fun w' =>Hid (Below w6.heap.size w6 w')/\w'.cell? ⟨F.gt,7,none⟩=some (.slice (some ⟨gb,0,none⟩) m cb)/\w'.cell? ⟨gb,i,none⟩=some (.int .i64 (T.basic i:Nat))/\w'.cell? ⟨gb,j,none⟩=some (.int .i64 (T.basic j:Nat))) 3 43 46 rfl (by kernel_rfl) (by kernel_rfl) (by kernel_rfl) rfl (zm (zv w6) (fun hB=>⟨zh hB tL t7,zh hB hgb o1,zh hB hgb o2⟩)) ?_ (fun hHeld=>?_)
                . intro _ _ _ _ _ h9;exact h9
                simp only [List.take_succ_cons,List.take_zero]
                iterate 3 refine zW ?_
                refine zM ?_;refine HH.tk 3 ?_;refine HH.tk 4 ?_;refine HH.tk 5 ?_;refine HH.tk 6 ?_;refine HH.tk 7 ?_;refine HH.tk 8 ?_;refine HH.tk 9 ?_;refine HH.tk 10 ?_;refine HH.tk 11 ?_;refine HH.tk 12 ?_;refine HH.tk 13 ?_;refine HH.rd 14 (fun K hK=>?_);rw [if_pos (by rfl)]
                go_simp
                go_at_call 139;refine (HROOM.out _ (HT.out.below hHeld.1.out)).mono ?_;rintro e w7 ⟨rfl,hb2⟩;have hH0:=hHeld;clear hHeld;refine hK.out _ _ (zm (zt hb2 hH0.1) (fun hB=>⟨zh hB tL t7,zh hB hgb o1,zh hB hgb o2⟩)) (fun hHeld=>?_);clear hH0 hK K
                try simp only [Act.put,List.setIfInBounds_toArray,List.set_cons_zero,List.set_cons_succ]
                clear hb2;refine HH.tk 15 ?_;refine HH.tk 16 ?_;refine HH.tk 17 ?_;refine HH.tk 18 ?_;refine HH.tk 19 ?_;refine HH.tk 20 ?_;refine HH.tk 21 ?_;refine HH.tk 22 ?_;refine HH.tk 23 ?_;refine HH.tk 24 ?_;refine HH.rd 25 (fun K hK=>?_);rw [if_pos (by rfl)]
                go_simp
                go_at_call 139;refine (HROOM.out _ (HT.out.below hHeld.1.out)).mono ?_;rintro e w8 ⟨rfl,hb2⟩;have hH0:=hHeld;clear hHeld;refine hK.out _ _ (zm (zt hb2 hH0.1) (fun hB=>⟨zh hB tL t7,zh hB hgb o1,zh hB hgb o2⟩)) (fun hHeld=>?_);clear hH0 hK K
                try simp only [Act.put,List.setIfInBounds_toArray,List.set_cons_zero,List.set_cons_succ]
                clear hb2;refine HH.tk 26 ?_;refine HH.tk 27 ?_;refine HH.tk 28 ?_;refine HH.tk 29 ?_;refine HH.tk 30 ?_;refine HH.tk 31 ?_;refine HH.tk 32 ?_;refine HH.tk 33 ?_;refine HH.tk 34 ?_;refine HH.tk 35 ?_;refine HH.tk 36 ?_;refine HH.tk 37 ?_;refine HH.tk 38 ?_;refine HH.tk 39 ?_;refine HH.tk 40 ?_;refine HH.tk 41 ?_;refine HH.tk 42 ?_;refine HH.tk 43 ?_;refine HH.tk 44 ?_;refine HH.tk 45 ?_;have HBY:=(hHeld.1).out;replace HT:=ze (yb.below HT.out HBY);replace HW:=eb_ HW HBY;clear HBY hHeld;refine HH.done (by kernel_rfl) ?_;simp only [List.drop_succ_cons,List.drop_zero];clear t7 o1 o2 tL hgb hbc;go_wp2_with fail;go_roundw
                case rel=>exact ⟨i+1,by omega,by go_num,(by rw [HRM.out,HEN.out];rfl),HT,HW⟩
                case measure=>simp [intOf];omega
        . have HEN:Hid (T.leave rm c (i+1)=some j):=T.leave_no (Int.not_le.2 HP.out) HLV.out (fun h=>by
           rcases h with h | ⟨h,_⟩<;>omega)
          clear hcc;refine zr (S:=fun w' =>Hid (Below w6.heap.size w6 w')/\w'.cell? ⟨F.gt,7,none⟩=some (.slice (some ⟨gb,0,none⟩) m cb)/\w'.cell? ⟨gb,i,none⟩=some (.int .i64 (T.basic i:Nat))/\w'.cell? ⟨gb,j,none⟩=some (.int .i64 (T.basic j:Nat))) 3 43 46 rfl (by kernel_rfl) (by kernel_rfl) (by kernel_rfl) rfl (zm (zv w6) (fun hB=>⟨zh hB tL t7,zh hB hgb o1,zh hB hgb o2⟩)) ?_ (fun hHeld=>?_)
          . intro _ _ _ _ _ h9;exact h9
          simp only [List.take_succ_cons,List.take_zero]
          iterate 3 refine zW ?_
          refine zM ?_;refine HH.tk 3 ?_;refine HH.tk 4 ?_;refine HH.tk 5 ?_;refine HH.sk 6 ?_;refine HH.sk 7 ?_;refine HH.sk 8 ?_;refine HH.sk 9 ?_;refine HH.sk 10 ?_;refine HH.sk 11 ?_;refine HH.sk 12 ?_;refine HH.sk 13 ?_;refine HH.sk 14 ?_;refine HH.sk 15 ?_;refine HH.sk 16 ?_;refine HH.sk 17 ?_;refine HH.sk 18 ?_;refine HH.sk 19 ?_;refine HH.sk 20 ?_;refine HH.sk 21 ?_;refine HH.sk 22 ?_;refine HH.sk 23 ?_;refine HH.sk 24 ?_;refine HH.sk 25 ?_;refine HH.sk 26 ?_;refine HH.sk 27 ?_;refine HH.sk 28 ?_;refine HH.sk 29 ?_;refine HH.sk 30 ?_;refine HH.sk 31 ?_;refine HH.sk 32 ?_;refine HH.sk 33 ?_;refine HH.sk 34 ?_;refine HH.sk 35 ?_;refine HH.sk 36 ?_;refine HH.sk 37 ?_;refine HH.sk 38 ?_;refine HH.sk 39 ?_;refine HH.sk 40 ?_;refine HH.sk 41 ?_;refine HH.sk 42 ?_;refine HH.sk 43 ?_;refine HH.sk 44 ?_;refine HH.tk 45 ?_;have HBY:=(hHeld.1).out;replace HT:=ze (yb.below HT.out HBY);replace HW:=eb_ HW HBY;clear HBY hHeld;refine HH.done (by kernel_rfl) ?_;simp only [List.drop_succ_cons,List.drop_zero];clear t7 o1 o2 tL hgb hbc;go_wp2_with fail;go_roundw
          case rel=>exact ⟨i+1,by omega,by go_num,(by rw [HRM.out,HEN.out];rfl),HT,HW⟩
          case measure=>simp [intOf];omega
  . obtain rfl:m=i:=by omega
    go_wp2_with fail;go_ret;exact ⟨by go_num,HW.out⟩
def wtN (T:yy) (nn m:Nat) (sc:Nat->Int) (b:Int):Nat->Nat->Rat
 | 0=>fun _=>0
 | n+1=>fun i=>if T.other n=2*nn+i then Rat.divInt (-(T.cell m (n+1))*sc i) (T.den*b) else wtN T nn m sc b n i
def XO (w:World) (g n:Nat) (f:Nat->Int):Prop:=g<w.heap.size/\∀ k,k<n->zbm w g k (f k)
theorem XO.below {w w' :World} {g n:Nat} {f:Nat->Int} (h:XO w g n f) (hb:Below w.heap.size w w'):XO w' g n f:=⟨Nat.lt_of_lt_of_le h.1 hb.size,fun k hk=>(h.2 k hk).below hb⟩
theorem XN {w w1 w2:World} {g:Nat} (h:Below w.heap.size w w1) (hc:Chg (· =g) w1 w2) (hg:w.heap.size<=g):Below w.heap.size w w2:=h.trans (hc.below h.size (fun b e=>by omega))
def zo9 (m:Nat) (f:Nat->Rat) (w:World) (e:Ending) (w' :World):Prop:=∃ g,e= .returned (.slice (some ⟨g,0,none⟩) m m)/\xa w' g m m f/\Below w.heap.size w w'
def WtA (w0:World) (m g gb:Nat) (z:Int) (iv:Value) (wr:World):Prop:=
 ∃ i:Nat,i<=m/\iv= .int .i64 i/\Hid (xa wr g m i (fun _=>0))/\Hid (Zw wr gb z)/\Hid (Below w0.heap.size w0 wr)
def WtB (w0:World) (m L g gb nn:Nat) (T:yy) (sc:Nat->Int) (z:Int) (kv:Value) (wr:World):Prop:=
 ∃ k:Nat,k<=L - 1/\kv= .int .i64 k/\Hid (xa wr g m m (wtN T nn m sc z k))/\Hid (Zw wr gb z)/\Hid (Below w0.heap.size w0 wr)
theorem zdk (base m L:Nat) (F:zS) (T:yy) (gs cs:Nat) (sc:Nat->Int) (vn:Value) (z:Int) (w:World) (hT:yb base m L F w T) (hs:XO w gs m sc) (hn:zR w vn z) (hf:T.Fits m L) (hz:Fit z) (hz0:z≠0)
 (hsc:∀ i,i<m->Fit (sc i)) (hm:m<=100000) (hL:L<=100000) (ho:∀ k,k<L - 1->T.other k<=1000000):
 Calls Tryz.prog 136 #[.pointer (some ⟨F.gt,0,none⟩),.slice (some ⟨gs,0,none⟩) m cs,vn] w (zo9 m (wtN T F.nn m sc z (L - 1)) w):=by
 obtain ⟨x2,A2,k2,c2,s2,rfl,_,_,_⟩:=hn.form
 obtain ⟨W0,hW0⟩:∃ x,x=w.alloc (.cells #[.int .i64 x2,.slice A2 k2 c2,.bool s2] 91):=⟨_,rfl⟩
 have hx:=zf w (.cells #[.int .i64 x2,.slice A2 k2 c2,.bool s2] 91)
 have hk1:=Blk.new w 91 #[.int .i64 x2,.slice A2 k2 c2,.bool s2]
 rw [<- hW0] at hx hk1
 have HV:Hid (Zw W0 w.heap.size z):=⟨_,_,_,_,_,hk1,hn.below hx⟩
 have HW:=ze hx
 have HT0:=ze hT
 have HS0:=ze hs
 have HF:=ze hf
 have HZ:=ze hz
 have HZ0:=ze hz0
 have HSC:=ze hsc
 have HO:=ze ho
 clear hn hx hk1 hT hs hf hz hz0 hsc ho
 go_enter Tryz.func136,Tryz.ntmps136
 go_upto_region 1 with fail
 rw [<- hW0]
 clear hW0
 have HGB:=ze (Nat.le_refl w.heap.size)
 generalize hgv:w.heap.size=gv at HV |-
 have HGV:Hid (w.heap.size<=gv):=Nat.le_of_eq hgv
 clear hgv HGB
 have t1:=(HT0.out.below HW.out).cell1
 have hmk:=fun w=>zff .i64 m hm w
 go_upto_region 2 with fail
 have hx:=zf W0 (.cells (xY m) 93)
 have HR:Hid (xa (W0.alloc (.cells (xY m) 93)) W0.heap.size m 0 (fun _=>0)):=zhj W0 m _
 have HGG:Hid (w.heap.size<=W0.heap.size/\gv<W0.heap.size):=⟨HW.out.size,HV.out.lt⟩
 replace HV:=ze (HV.out.below hx)
 replace HW:=eb_ HW hx
 clear hx hmk t1
 generalize W0.alloc (.cells (xY m) 93)=W1 at HV HW HR |-
 generalize W0.heap.size=g at HR HGG |-
 go_wp2_with fail
 go_loopw [21] (WtA w m g gv z) (fun iv _=>m - (intOf iv).toNat)
 case atStart=>exact ⟨0,Nat.zero_le _,rfl,HR,HV,HW⟩
 case round=>
  clear HR HV HW
  obtain ⟨i,hi,rfl,HR,HV,HW⟩:=hrel
  by_cases hil:i<m
  . have hii:(i:Int)<(m:Int):=by omega
    go_wp2_with fail;refine (XZ 0 _ (by omega) (by omega)).mono ?_;rintro e w1 ⟨v,rfl,⟨x,A,k,c,s,y,B,k',c',t,rfl,hv1,hv2⟩,hb1⟩;replace HR:=ze (HR.out.below hb1);replace HV:=ze (HV.out.below hb1);replace HW:=eb_ HW hb1;obtain ⟨u0,u1,u2,u3,u4,u5,s0,s1,s2,s3,s4,s5⟩:=HR.out.slots hil;have f0:=HR.out.frozen (i*6);have f1:=HR.out.frozen (i*6+1);have f2:=HR.out.frozen (i*6+2);have f3:=HR.out.frozen (i*6+3);have f4:=HR.out.frozen (i*6+4);have f5:=HR.out.frozen (i*6+5);have hq:yC w1 (.agg #[.int .i64 x,.slice A k c,.bool s,.int .i64 y,.slice B k' c',.bool t]) 0:=⟨_,_,_,_,_,_,_,_,_,_,rfl,hv1,hv2⟩;have hcn:=YK (w:=w1) (g:=g) (k:=i) (x:=x) (s:=s) (A:=A) (n:=k) (c:=c) (y:=y) (t:=t) (B:=B) (n' :=k') (c' :=c')
    have HR2:Hid (xa (World.ratAt w1 g i x A k c s y B k' c' t) g m (i+1) (fun _=>0)):=HR.out.set hil hq (fun j hj=>by
     by_cases e:j=i
     . exact .inl ⟨e,rfl⟩
     . exact .inr ⟨e,by omega,rfl⟩)
    have HV2:=ze (HV.out.chg hcn (by have:=HGG.out.2;omega) (fun b e=>by subst e;exact HR.out.noDig));have HW2:=ze (XN HW.out hcn HGG.out.1);clear HR HV HW hq hcn hv1 hv2 hb1;go_wp2_with fail;go_roundw
    case rel=>first | exact ⟨i+1,by omega,by go_num,HR2,HV2,HW2⟩ | ((repeat apply Exists.intro);exact ⟨⟨i+1,by omega,by go_num,HR2,HV2,HW2⟩,rfl⟩)
    case measure=>simp [intOf];omega
  . obtain rfl:m=i:=by omega
    skip
    obtain ⟨go,co,eo,hgo,hoc⟩:=HT0.out.others;have HOC:=ze (fun wr (h:Below w.heap.size w wr) k (hk:k<L - 1)=>(h.cell (p:=⟨go,k,none⟩) hgo).trans (hoc k hk));have HT:=ze (HT0.out.below HW.out);have t1:=HT.out.cell1;have t3:=HT.out.cell3;have t4:=HT.out.mat.cell (i:=m) (by omega);have hmi:(m:Int)<(m:Int)+1:=by omega
    clear hgo hoc
    go_upto_region 7 with fail
    go_region
    replace HR:=ze (HR.out.below (zv _).out);replace HV:=ze (HV.out.below (zv _).out);replace HW:=ze (ext HW.out (zv _).out);clear t1 t3 t4 HT;generalize wr.drew=W3 at HR HV HW |-;have t8:=(HT0.out.below HW.out).cell8;rw [eo] at t8;have h2n:IntKind.i64.wrap (2*(F.nn:Int))=2*(F.nn:Int):=by have:=HT0.out.cols;rw [IntKind.wrap_i64];omega
    have hnn:F.nn<=100000:=by have:=HT0.out.cols;omega
    go_wp2_with fail
    go_loopw [45] (WtB w m L g gv F.nn T sc z) (fun kv _=>L - 1 - (intOf kv).toNat)
    case atStart=>exact ⟨0,Nat.zero_le _,rfl,HR,HV,HW⟩
    case round=>
     clear HR HV HW t8;obtain ⟨k,hk,rfl,HR,HV,HW⟩:=hrel
     by_cases hkl:k<L - 1
     . have hki:(k:Int)<((L - 1:Nat):Int):=by omega
       have HT:=ze (HT0.out.below HW.out);have o1:=HOC.out _ HW.out k hkl;have t2:=HT.out.cell2;have t1:=HT.out.cell1;have hob:=HO.out k hkl;have hws:IntKind.i64.wrap ((T.other k:Int) - 2*(F.nn:Int))=(T.other k:Int) - 2*(F.nn:Int):=by rw [IntKind.wrap_i64];omega
       by_cases hin:2*F.nn<=T.other k/\T.other k<2*F.nn+m
       . obtain ⟨i,hi⟩:∃ i,i=T.other k - 2*F.nn:=⟨_,rfl⟩
         have ei:(T.other k:Int) - 2*(F.nn:Int)=(i:Int):=by omega
         have him:i<m:=by omega
         have HI:Hid (T.other k=2*F.nn+i):=by show T.other k=_;omega
         have d1:decide ((i:Int) ≥ 0)=true:=by rw [decide_eq_true_iff];omega
         have d2:decide ((i:Int)<(m:Int))=true:=by rw [decide_eq_true_iff];omega
         have hii:(i:Int)<(m:Int):=by omega
         rw [ei] at hws;obtain ⟨K,hK⟩:∃ K,K=k+1:=⟨_,rfl⟩;have eK:(k:Int)+1=(K:Int):=by omega
         have hKL:(K:Int)<(L:Int):=by omega
         have hwK:IntKind.i64.wrap (K:Int)=(K:Int):=by rw [IntKind.wrap_i64];omega
         have hK0:(0:Int)<=(K:Int):=by omega
         have hKl:K<L:=by omega
         have HK:=ze hK;clear hi hin hob hK
         go_upto_region 13 with fail
         obtain ⟨ax,aA,an,ac,ag,a0,a1,a2,ha⟩:=HT.out.mat.at_ (i:=m) (k:=K) (by omega) hKl;have hsn:=HS0.out.below HW.out;obtain ⟨bx,bA,bn,bc,bg,b0,b1,b2,hbn⟩:=hsn.2 i him;obtain ⟨dx,dA,dn,dc,dg,hblk,hden⟩:=HT.out.blk;have d4:wr.cell? ⟨F.gt,4,none⟩=some (.int .i64 dx):=by rw [hblk.cell];rfl
         have d5:wr.cell? ⟨F.gt,5,none⟩=some (.slice dA dn dc):=by rw [hblk.cell];rfl
         have d6:wr.cell? ⟨F.gt,6,none⟩=some (.bool dg):=by rw [hblk.cell];rfl
         obtain ⟨vx,vA,vn,vc,vg,hkv,hvn⟩:=HV.out;have q0:=hkv.cell 0;have q1:=hkv.cell 1;have q2:=hkv.cell 2;simp at q0 q1 q2;have tL:=hblk.lt;have aL:=(HT.out.mat.rows m (by omega)).2.lt;have bL:=hsn.1;have vL:=hkv.lt;have HA:=ze ha;have HBN:=ze hbn;have HDN:=ze hden;have HVN:=ze hvn;have N1:=ze (HF.out.cell m K (Nat.le_refl _) hKl);have N2:=ze (HSC.out i him);have HDZ:Hid (T.den*z≠0):=by have:=HF.out.den;exact Int.mul_ne_zero (by omega) HZ0.out
         clear ha hbn hden hvn hblk hkv hsn t1 t2 o1;refine zr (S:=fun w' =>Hid (Below wr.heap.size wr w')/\w'.cell? ⟨F.g m,K*3,none⟩=some (.int .i64 ax)/\w'.cell? ⟨F.g m,K*3+1,none⟩=some (.slice aA an ac)/\w'.cell? ⟨F.g m,K*3+2,none⟩=some (.bool ag)/\w'.cell? ⟨gs,i*3,none⟩=some (.int .i64 bx)/\w'.cell? ⟨gs,i*3+1,none⟩=some (.slice bA bn bc)/\w'.cell? ⟨gs,i*3+2,none⟩=some (.bool bg)/\w'.cell? ⟨F.gt,4,none⟩=some (.int .i64 dx)/\w'.cell? ⟨F.gt,5,none⟩=some (.slice dA dn dc)/\w'.cell? ⟨F.gt,6,none⟩=some (.bool dg)/\w'.cell? ⟨gv,0,none⟩=some (.int .i64 vx)/\w'.cell? ⟨gv,1,none⟩=some (.slice vA vn vc)/\w'.cell? ⟨gv,2,none⟩=some (.bool vg)) 7 14 21 rfl (by kernel_rfl) (by kernel_rfl) (by kernel_rfl) rfl (zm (zv wr) (fun hB=>⟨zh hB aL a0,zh hB aL a1,zh hB aL a2,zh hB bL b0,zh hB bL b1,zh hB bL b2,zh hB tL d4,zh hB tL d5,zh hB tL d6,zh hB vL q0,zh hB vL q1,zh hB vL q2⟩)) ?_ (fun hHeld=>?_)
         . intro _ _ _ _ _ h9;exact h9
         simp only [List.take_succ_cons,List.take_zero]
         iterate 7 refine zW ?_
         refine zM ?_;refine HH.tk 8 ?_;refine HH.tk 9 ?_;refine HH.tk 10 ?_;refine HH.tk 11 ?_;refine HH.tk 13 ?_;refine HH.tk 14 ?_;refine HH.tk 15 ?_;refine HH.tk 16 ?_;refine HH.tk 17 ?_;refine HH.rd 7 (fun K hK=>?_)
         go_simp
         go_at_call 161;refine (yW _ _ _ (HA.out.below hHeld.1.out)).mono ?_;rintro e w2 ⟨v1,rfl,hv,hb2⟩;have HX1:=ze hv;clear hv;have hH0:=hHeld;clear hHeld;refine hK.out _ _ (zm (zt hb2 hH0.1) (fun hB=>⟨zh hB aL a0,zh hB aL a1,zh hB aL a2,zh hB bL b0,zh hB bL b1,zh hB bL b2,zh hB tL d4,zh hB tL d5,zh hB tL d6,zh hB vL q0,zh hB vL q1,zh hB vL q2⟩)) (fun hHeld=>?_);clear hH0 hK K
         try simp only [Act.put,List.setIfInBounds_toArray,List.set_cons_zero,List.set_cons_succ]
         clear hb2;refine HH.rd 12 (fun K hK=>?_)
         go_simp
         go_at_call 130;refine (x7 _ _ _ _ _ HX1.out (HBN.out.below hHeld.1.out) (N1.out.neg.le2 (by omega)) (N2.out.le2 (by omega))).mono ?_;rintro e w3 ⟨v2,rfl,hv,hb2⟩;have HX2:=ze hv;clear hv HX1;have hH0:=hHeld;clear hHeld;refine hK.out _ _ (zm (zt hb2 hH0.1) (fun hB=>⟨zh hB aL a0,zh hB aL a1,zh hB aL a2,zh hB bL b0,zh hB bL b1,zh hB bL b2,zh hB tL d4,zh hB tL d5,zh hB tL d6,zh hB vL q0,zh hB vL q1,zh hB vL q2⟩)) (fun hHeld=>?_);clear hH0 hK K
         try simp only [Act.put,List.setIfInBounds_toArray,List.set_cons_zero,List.set_cons_succ]
         clear hb2;refine HH.rd 18 (fun K hK=>?_)
         go_simp
         go_at_call 130;refine (x7 _ _ _ _ _ (HDN.out.below hHeld.1.out) (HVN.out.below hHeld.1.out) (HF.out.fden.le2 (by omega)) (HZ.out.le2 (by omega))).mono ?_;rintro e w4 ⟨v3,rfl,hv,hb2⟩;have HX3:=ze hv;replace HX2:=ze (HX2.out.below hb2);clear hv;have hH0:=hHeld;clear hHeld;refine hK.out _ _ (zm (zt hb2 hH0.1) (fun hB=>⟨zh hB aL a0,zh hB aL a1,zh hB aL a2,zh hB bL b0,zh hB bL b1,zh hB bL b2,zh hB tL d4,zh hB tL d5,zh hB tL d6,zh hB vL q0,zh hB vL q1,zh hB vL q2⟩)) (fun hHeld=>?_);clear hH0 hK K
         try simp only [Act.put,List.setIfInBounds_toArray,List.set_cons_zero,List.set_cons_succ]
         clear hb2;refine HH.rd 19 (fun K hK=>?_)
         go_simp
         go_at_call 128;refine (ZZ _ _ _ _ _ HX2.out HX3.out HDZ.out (Y6 N1.out.neg N2.out (by omega)) (Y6 HF.out.fden HZ.out (by omega))).mono ?_;rintro e w5 ⟨v4,rfl,hv,hb2⟩;have HX4:=ze hv;clear hv HX2 HX3;have hH0:=hHeld;clear hHeld;refine hK.out _ _ (zm (zt hb2 hH0.1) (fun hB=>⟨zh hB aL a0,zh hB aL a1,zh hB aL a2,zh hB bL b0,zh hB bL b1,zh hB bL b2,zh hB tL d4,zh hB tL d5,zh hB tL d6,zh hB vL q0,zh hB vL q1,zh hB vL q2⟩)) (fun hHeld=>?_);clear hH0 hK K
         try simp only [Act.put,List.setIfInBounds_toArray,List.set_cons_zero,List.set_cons_succ]
         clear hb2;refine HH.tk 20 ?_;have HBY:=(hHeld.1).out;replace HR:=ze (xa.below HR.out HBY);replace HV:=ze (Zw.below HV.out HBY);replace HW:=eb_ HW HBY;clear HBY hHeld;refine HH.done (by kernel_rfl) ?_;simp only [List.drop_succ_cons,List.drop_zero];clear HA HBN HDN HVN N1 N2 a0 a1 a2 b0 b1 b2 d4 d5 d6 q0 q1 q2 tL aL bL vL HT HDZ;obtain ⟨x,A,n,c,s,y,B,n',c',t,rfl,hv1,hv2⟩:=HX4.out;obtain ⟨u0,u1,u2,u3,u4,u5,s0,s1,s2,s3,s4,s5⟩:=HR.out.slots him;have f0:=HR.out.frozen (i*6);have f1:=HR.out.frozen (i*6+1);have f2:=HR.out.frozen (i*6+2);have f3:=HR.out.frozen (i*6+3);have f4:=HR.out.frozen (i*6+4);have f5:=HR.out.frozen (i*6+5);have hcn:=YK (w:=w5) (g:=g) (k:=i) (x:=x) (s:=s) (A:=A) (n:=n) (c:=c) (y:=y) (t:=t) (B:=B) (n' :=n') (c' :=c')
         have HR2:Hid (xa (World.ratAt w5 g i x A n c s y B n' c' t) g m m (wtN T F.nn m sc z (k+1))):=HR.out.set him HX4.out (fun j hj=>by
          have hk:=HK.out;subst hk;have hi:=HI.out
          show (j=i/\(if T.other k=2*F.nn+j then _ else _)=_)\/(j≠i/\j<m/\(if T.other k=2*F.nn+j then _ else _)=_)
          by_cases e:j=i
          . exact .inl ⟨e,by subst e;rw [if_pos hi]⟩
          . exact .inr ⟨e,hj,by rw [if_neg (by omega)]⟩)
         have HV2:=ze (HV.out.chg hcn (by have:=HGG.out.2;omega) (fun b e=>by subst e;exact HR.out.noDig));have HW2:=ze (XN HW.out hcn HGG.out.1);clear HR HV HW HX4 hcn hv1 hv2;go_wp2_with fail;go_roundw
         case rel=>first | exact ⟨k+1,by omega,by go_num,HR2,HV2,HW2⟩ | ((repeat apply Exists.intro);exact ⟨⟨k+1,by omega,by go_num,HR2,HV2,HW2⟩,rfl⟩)
         case measure=>simp [intOf];omega
       . obtain ⟨d,hd⟩:∃ d:Int,(T.other k:Int) - 2*(F.nn:Int)=d:=⟨_,rfl⟩
         have HR2:Hid (xa wr g m m (wtN T F.nn m sc z (k+1))):=HR.out.fewer (fun j hj=>⟨hj,by
          show (if T.other k=2*F.nn+j then _ else _)=_
          rw [if_neg (by omega)]⟩)
         rw [hd] at hws;clear HR
         by_cases h0:d ≥ 0
         . have d1:decide (d ≥ 0)=true:=decide_eq_true h0
           have d2:decide (d<(m:Int))=false:=decide_eq_false (by omega);clear hin hob h0;go_wp2_with fail;go_roundw
           case rel=>exact ⟨k+1,by omega,by go_num,HR2,HV,HW⟩
           case measure=>simp [intOf];omega
         . have d1:decide (d ≥ 0)=false:=decide_eq_false h0
           clear hin hob h0;go_wp2_with fail;go_roundw
           case rel=>exact ⟨k+1,by omega,by go_num,HR2,HV,HW⟩
           case measure=>simp [intOf];omega
     . obtain rfl:k=L - 1:=by omega
       go_wp2_with fail;go_ret;exact ⟨g,rfl,HR.out,HW.out⟩
def xT (f:Nat->Nat) (u:Int):Nat->Option Nat
 | 0=>none
 | n+1=>match xT f u n with
   | some j=>some j
   | none=>if (f n:Int)=u then some n else none
theorem YU {f:Nat->Nat} {u:Int}:∀ {n:Nat},(∀ j,j<n->(f j:Int)≠u)->xT f u n=none
 | 0,_=>rfl
 | n+1,h=>by
   unfold xT;rw [YU (n:=n) (fun j hj=>h j (by omega))];exact if_neg (h n (by omega))
theorem V7 {f:Nat->Nat} {u:Int} {i:Nat} (hi:(f i:Int)=u) (hl:∀ j,j<i->(f j:Int)≠u):∀ {n:Nat},i<n->xT f u n=some i
 | 0,h=>by omega
 | n+1,h=>by
   unfold xT
   by_cases e:i=n
   . subst e
     rw [YU hl];exact if_pos hi
   . rw [V7 hi hl (n:=n) (by omega)]
def IxR (w0:World) (f:Nat->Nat) (u:Int) (n:Nat) (iv:Value) (wr:World):Prop:=∃ i:Nat,i<=n/\iv= .int .i64 i/\Hid (∀ j,j<i->(f j:Int)≠u)/\w0=wr
theorem zb8 (g n c:Nat) (f:Nat->Nat) (u:Int) (w:World) (hn:n<=1000000) (h:∀ i,i<n->w.cell? ⟨g,i,none⟩=some (.int .i64 (f i:Nat))):
 Calls Tryz.prog 187 #[.slice (some ⟨g,0,none⟩) n c,.int .i64 u] w (Vd w (.int .i64 (zf5 (xT f u n)))):=by
 have HH:=ze h
 clear h
 go_enter Tryz.func187,Tryz.ntmps187
 go_wp2_with fail
 go_loopw [8] (IxR w f u n) (fun iv _=>n - (intOf iv).toNat)
 case atStart=>exact ⟨0,Nat.zero_le _,rfl,(fun j hj=>by omega),rfl⟩
 case round=>
  obtain ⟨i,hi,rfl,HJ,rfl⟩:=hrel
  by_cases hil:i<n
  . have hii:(i:Int)<(n:Int):=by omega
    have c1:=HH.out i hil
    by_cases he:u=(f i:Int)
    . have d1:(u == (f i:Int))=true:=by rw [beq_iff_eq];exact he
      have HE:=ze (V7 (f:=f) (u:=u) he.symm HJ.out hil);clear he;go_wp2_with fail;go_ret;exact ⟨by rw [HE.out];rfl,rfl⟩
    . have d1:(u == (f i:Int))=false:=by rw [beq_eq_false_iff_ne];exact he
      have HJ2:Hid (∀ j,j<i+1->(f j:Int)≠u):=fun j hj=>by
       by_cases e:j=i
       . subst e;exact fun h=>he h.symm
       . exact HJ.out j (by omega)
      clear he HJ;go_wp2_with fail;go_round
      case rel=>exact ⟨i+1,by omega,by go_num,HJ2,rfl⟩
      case measure=>simp [intOf];omega
  . obtain rfl:n=i:=by omega
    have HE:=ze (YU (f:=f) (u:=u) HJ.out);go_wp2_with fail;go_ret;exact ⟨by rw [HE.out];rfl,rfl⟩
theorem zgg (base m L:Nat) (F:zS) (T:yy) (vn:Value) (z:Int) (w:World) (hT:yb base m L F w T) (hn:zR w vn z) (hz:len 4294967296 z.natAbs<=33554432) (hd:Fit T.den) (hd0:T.den≠0):
 Calls Tryz.prog 192 #[.pointer (some ⟨F.gt,0,none⟩),vn] w (zds w (Rat.divInt z T.den)):=by
 obtain ⟨x2,A2,k2,c2,s2,rfl,_,_,_⟩:=hn.form
 obtain ⟨W0,hW0⟩:∃ x,x=(w.alloc (.cells #[.int .i64 x2,.slice A2 k2 c2,.bool s2] 91)).alloc (.cells #[.int .i64 0,.slice none 0 0,.bool false,.int .i64 0,.slice none 0 0,.bool false] 93):=⟨_,rfl⟩
 have hx:=ext (zf w (.cells #[.int .i64 x2,.slice A2 k2 c2,.bool s2] 91)) (zf _ (.cells #[.int .i64 0,.slice none 0 0,.bool false,.int .i64 0,.slice none 0 0,.bool false] 93))
 have hk1:=(Blk.new w 91 #[.int .i64 x2,.slice A2 k2 c2,.bool s2]).alloc (.cells #[.int .i64 0,.slice none 0 0,.bool false,.int .i64 0,.slice none 0 0,.bool false] 93)
 have hk2:=Blk.new (w.alloc (.cells #[.int .i64 x2,.slice A2 k2 c2,.bool s2] 91)) 93 #[.int .i64 0,.slice none 0 0,.bool false,.int .i64 0,.slice none 0 0,.bool false]
 simp only [World.size_alloc] at hk2
 rw [<- hW0] at hx hk1 hk2
 have HW:=ze hx
 have HN:=ze (hn.below hx)
 have HT:=hT.below hx
 have HK2:=ze hk2
 obtain ⟨⟨dx,dA,dn,dc,dg,hblk,hden⟩,_⟩:=HT
 have HD:=ze hden
 have d4:W0.cell? ⟨F.gt,4,none⟩=some (.int .i64 dx):=by rw [hblk.cell];rfl
 have d5:W0.cell? ⟨F.gt,5,none⟩=some (.slice dA dn dc):=by rw [hblk.cell];rfl
 have d6:W0.cell? ⟨F.gt,6,none⟩=some (.bool dg):=by rw [hblk.cell];rfl
 have tL:=hblk.lt
 have r0:=hk1.cell 0
 have r1:=hk1.cell 1
 have r2:=hk1.cell 2
 simp at r0 r1 r2
 have rL:=hk1.lt
 have HZ:=ze hz
 have HDF:=ze hd
 have HD0:=ze hd0
 clear hn hx hk1 hk2 hblk hden hT hz hd hd0
 go_enter Tryz.func192,Tryz.ntmps192
 go_upto_region 1 with fail
 rw [<- hW0]
 clear hW0
 refine zr (S:=fun w' =>Hid (Below W0.heap.size W0 w')/\w'.cell? ⟨w.heap.size,0,none⟩=some (.int .i64 x2)/\w'.cell? ⟨w.heap.size,1,none⟩=some (.slice A2 k2 c2)/\w'.cell? ⟨w.heap.size,2,none⟩=some (.bool s2)/\w'.cell? ⟨F.gt,4,none⟩=some (.int .i64 dx)/\w'.cell? ⟨F.gt,5,none⟩=some (.slice dA dn dc)/\w'.cell? ⟨F.gt,6,none⟩=some (.bool dg)) 5 1 6 rfl (by kernel_rfl) (by kernel_rfl) (by kernel_rfl) rfl (zm (zv W0) (fun hB=>⟨zh hB rL r0,zh hB rL r1,zh hB rL r2,zh hB tL d4,zh hB tL d5,zh hB tL d6⟩)) ?_ (fun hHeld=>?_)
 . intro _ _ _ _ _ h9;exact h9
 simp only [List.take_succ_cons,List.take_zero]
 iterate 5 refine zW ?_
 refine zM ?_
 refine HH.rd 5 (fun K hK=>?_)
 go_simp
 go_at_call 128
 refine (ZZ _ _ _ _ _ (HN.out.below hHeld.1.out) (HD.out.below hHeld.1.out) HD0.out HZ.out (Nat.le_trans HDF.out (by omega))).mono ?_
 rintro e w1 ⟨v,rfl,hv,hb1⟩
 have HV:=ze hv
 clear hv
 have hH0:=hHeld
 clear hHeld
 refine hK.out _ _ (zm (zt hb1 hH0.1) (fun hB=>⟨zh hB rL r0,zh hB rL r1,zh hB rL r2,zh hB tL d4,zh hB tL d5,zh hB tL d6⟩)) (fun hHeld=>?_)
 clear hH0 hK K
 try simp only [Act.put,List.setIfInBounds_toArray,List.set_cons_zero,List.set_cons_succ]
 clear hb1
 have HBY:=(hHeld.1).out
 try clear e0 e1 e2 e3 e4 e5 eL
 replace HW:=eb_ HW HBY
 replace HN:=ze (HN.out.below HBY)
 replace HD:=ze (HD.out.below HBY)
 replace HK2:=kb_ HK2 HBY
 clear HBY hHeld
 refine HH.done (by kernel_rfl) ?_
 simp only [List.drop_succ_cons,List.drop_zero]
 obtain ⟨e0,e1,e2,e3,e4,e5,eL⟩:=bkc6 HK2.out
 obtain ⟨x,A,k,c,s,y,B,k',c',t,rfl,hv1,hv2⟩:=HV.out
 have f0:=HK2.out.frozen 0
 have f1:=HK2.out.frozen 1
 have f2:=HK2.out.frozen 2
 have f3:=HK2.out.frozen 3
 have f4:=HK2.out.frozen 4
 have f5:=HK2.out.frozen 5
 have kR4:=yu (x:=x) (A:=A) (k:=k) (c:=c) (s:=s) (y:=y) (B:=B) (k' :=k') (c' :=c') (t:=t) HK2.out
 have q0:=kR4.cell 0
 have q1:=kR4.cell 1
 have q2:=kR4.cell 2
 have q3:=kR4.cell 3
 have q4:=kR4.cell 4
 have q5:=kR4.cell 5
 simp only [World.rat] at q0 q1 q2 q3 q4 q5
 simp at q0 q1 q2 q3 q4 q5
 have HR1:=ze (yI (x:=x) (A:=A) (k:=k) (c:=c) (s:=s) (y:=y) (B:=B) (k' :=k') (c' :=c') (t:=t) hv1 HK2.out)
 have HR2:=ze (yI (x:=x) (A:=A) (k:=k) (c:=c) (s:=s) (y:=y) (B:=B) (k' :=k') (c' :=c') (t:=t) hv2 HK2.out)
 have HWR:Hid (Below w.heap.size w (World.rat w1 (w.heap.size+1) x A k c s y B k' c' t)):=yp HW.out (by omega)
 clear hv1 hv2 kR4 HV HN HD r0 r1 r2 d4 d5 d6 tL rL
 go_wp2_with fail
 refine bodyPost_ret (v:=.agg #[.int .i64 x,.slice A k c,.bool s,.int .i64 y,.slice B k' c',.bool t]) (by simp [results,Tryz.results192,go_sem,q0,q1,q2,q3,q4,q5]) rfl ?_
 exact ⟨_,rfl,⟨_,_,_,_,_,_,_,_,_,_,rfl,HR1.out,HR2.out⟩,HWR.out⟩
theorem yb.chgRow {base m L:Nat} {F:zS} {w w' :World} {T:yy} {gl n:Nat} {f:Nat->Int} (h:yb base m L F w T) (hr:xy w gl L n f) (hc:Chg (· =gl) w w') (hne:∀ i,i<=m->F.g i≠gl):yb base m L F w' T:=by
 obtain ⟨⟨x,A,k,c,ng,h1,h2⟩,h3,h4,h5,h6,h7,h8⟩:=h
 obtain ⟨cs,hb⟩:=hr.heap
 have hS:∀ b,b=gl->yn w b:=fun b e=>by subst e;exact hr.noDig
 have hown:∀ e v size k xs,e≠91->vJ w base e size v k xs->∀ b,v.ownBlock=some b->¬ b=gl:=fun e v size k xs he ho b hb2 e2=>by
  obtain ⟨cs2,k2⟩:=ho.heap hb2
  exact xM hb k2 (fun e3=>he e3.symm) e2.symm
 exact ⟨⟨x,A,k,c,ng,hc.blk h1 (xM h1 hb (by decide)),hc.num h2 hS⟩,h3.chg hc (fun i hi=>hne i (by omega)) (hown _ _ _ _ _ (by decide) h3.own) hS,
  h4.chg hc (hown _ _ _ _ _ (by decide) h4),h5.chg hc (hown _ _ _ _ _ (by decide) h5),h6,h7,h8⟩
theorem znp {S:Nat->Prop} {w w1 w2:World} (h:Chg S w w1) (hb:Below w1.heap.size w1 w2):Chg S w w2:=h.trans (Chg.of_below (S:=S) hb) (fun _ _ h=>h)
theorem znq {S:Nat->Prop} {w w1 w2:World} (h:Chg S w w1) (hb:Below w1.heap.size w1 w2):Chg S w w2:=h.trans (Chg.of_below (S:=S) hb) (fun _ _ h=>h)
theorem zby {f:Nat->Nat} {u:Int}:∀ (n i:Nat),xT f u n=some i->i<n:=by
 intro n
 induction n with
 | zero=>intro i h;cases h
 | succ n ih=>
   intro i h;unfold xT at h
   split at h
   . next j hj=>injection h with h;subst h;have:=ih _ hj;omega
   . split at h
     . injection h with h;omega
     . cases h
def YC (T:yy) (m L:Nat) (u z:Int) (k:Nat):Int:=match xT T.basic u m with
 | some i=>T.cell i k*z
 | none=>if (k:Int)=zf5 (xT T.other u (L - 1))+1 then T.den*z else 0
def zq6 (T:yy) (m L gl:Nat) (f:Nat->Int) (u z:Int) (w:World) (e:Ending) (w' :World):Prop:=e= .returned (.tuple #[])/\xy w' gl L L (fun k=>f k+YC T m L u z k)/\Chg (· =gl) w w'
def CntR (w0:World) (base m L:Nat) (F:zS) (T:yy) (gl gv i:Nat) (f:Nat->Int) (z:Int) (kv:Value) (wr:World):Prop:=
 ∃ k:Nat,k<=L/\kv= .int .i64 k/\Hid (xy wr gl L L (fun j=>if j<k then f j+T.cell i j*z else f j))/\Hid (yb base m L F wr T)/\Hid (Zw wr gv z)/\Hid (Chg (· =gl) w0 wr)
theorem V8 (base m L:Nat) (F:zS) (T:yy) (gl:Nat) (f:Nat->Int) (u:Int) (vn:Value) (z:Int) (w:World) (hT:yb base m L F w T) (hr:xy w gl L L f) (hn:zR w vn z) (hne:∀ i,i<=m->F.g i≠gl) (hf:T.Fits m L) (hz:Fit z)
 (hl:∀ k,k<L->len 4294967296 (f k).natAbs<=67108864) (hm:m<=100000) (hL:L<=100000) (hm0:0<m) (hu:xT T.basic u m=none->xT T.other u (L - 1)≠none):
 Calls Tryz.prog 188 #[.pointer (some ⟨F.gt,0,none⟩),.slice (some ⟨gl,0,none⟩) L L,.int .i64 u,vn] w (zq6 T m L gl f u z w):=by
 obtain ⟨x2,A2,k2,c2,s2,rfl,_,_,_⟩:=hn.form
 obtain ⟨W0,hW0⟩:∃ x,x=w.alloc (.cells #[.int .i64 x2,.slice A2 k2 c2,.bool s2] 91):=⟨_,rfl⟩
 have hx:=zf w (.cells #[.int .i64 x2,.slice A2 k2 c2,.bool s2] 91)
 have hk1:=Blk.new w 91 #[.int .i64 x2,.slice A2 k2 c2,.bool s2]
 rw [<- hW0] at hx hk1
 have HV:Hid (Zw W0 w.heap.size z):=⟨_,_,_,_,_,hk1,hn.below hx⟩
 have HGL:=ze hr.lt
 have HT:=ze (hT.below hx)
 have HR:=ze (hr.below hx)
 have HC:Hid (Chg (· =gl) w W0):=Chg.of_below hx
 have HNE:=ze hne
 have HF:=ze hf
 have HZ:=ze hz
 have HL:=ze hl
 have HU:=ze hu
 clear hn hx hk1 hT hr hne hf hz hl hu
 obtain ⟨gb,cb,eb,hgb,hbc⟩:=HT.out.basics hm0
 have t7:=HT.out.cell7
 rw [eb] at t7
 have hix:=zb8 gb m cb T.basic u W0 (by omega) hbc
 have HIX:=ze hix
 clear hix hbc
 go_enter Tryz.func188,Tryz.ntmps188
 go_upto_region 1 with fail
 rw [<- hW0]
 clear hW0
 generalize w.heap.size=gv at HV HGL |-
 go_wp2_with fail
 refine HIX.out.mono ?_
 rintro e w1 ⟨rfl,rfl⟩
 cases hfi:xT T.basic u m with
 | some i=>
   have him:i<m:=zby _ _ hfi;have d1:decide ((i:Int) ≥ 0)=true:=by rw [decide_eq_true_iff];omega
   have d3:zf5 (some i)=(i:Int):=rfl;have HFI:=ze hfi;rw [d3];clear hfi d3 HIX t7;have hL0:(0:Int)<=(L:Int):=by omega
   go_wp2_with fail
   go_loopw [21] (CntR w base m L F T gl gv i f z) (fun kv _=>L - (intOf kv).toNat)
   case atStart=>exact ⟨0,Nat.zero_le _,rfl,HR.out.fewer (fun k hk=>⟨hk,by simp⟩),HT,HV,HC⟩
   case round=>
    clear HR HT HV HC;obtain ⟨k,hk,rfl,HR,HT,HV,HC⟩:=hrel
    by_cases hkl:k<L
    . have hki:(k:Int)<(L:Int):=by omega
      have hii:(i:Int)<(m:Int)+1:=by omega
      have t3:=HT.out.cell3;have t4:=HT.out.mat.cell (i:=i) (by omega);obtain ⟨ax,aA,an,ac,ag,a0,a1,a2,ha⟩:=HR.out.2 k hkl;simp only [Nat.lt_irrefl,if_false] at ha;obtain ⟨bx,bA,bn,bc,bg,b0,b1,b2,hbn⟩:=HT.out.mat.at_ (i:=i) (k:=k) (by omega) hkl;obtain ⟨vx,vA,vn,vc,vg,hkv,hvn⟩:=HV.out;have q0:=hkv.cell 0;have q1:=hkv.cell 1;have q2:=hkv.cell 2;simp at q0 q1 q2;have tL:=HT.out.lt;have mL:=HT.out.mat.lt.2;have aL:=HR.out.lt;have bL:=(HT.out.mat.rows i (by omega)).2.lt;have vL:=hkv.lt;have HA:=ze ha;have HBN:=ze hbn;have HVN:=ze hvn;have N1:=ze (HF.out.cell i k (by omega) hkl);clear ha hbn hkv hvn
      go_upto_region 6 with fail
      refine zr (S:=fun w' =>Hid (Below wr.heap.size wr w')/\w'.cell? ⟨F.gt,3,none⟩=some (.slice (some ⟨F.gm,0,none⟩) (m+1) F.cm)/\w'.cell? ⟨F.gm,i,none⟩=some (.slice (some ⟨F.g i,0,none⟩) L L)/\w'.cell? ⟨gl,k*3,none⟩=some (.int .i64 ax)/\w'.cell? ⟨gl,k*3+1,none⟩=some (.slice aA an ac)/\w'.cell? ⟨gl,k*3+2,none⟩=some (.bool ag)/\w'.cell? ⟨F.g i,k*3,none⟩=some (.int .i64 bx)/\w'.cell? ⟨F.g i,k*3+1,none⟩=some (.slice bA bn bc)/\w'.cell? ⟨F.g i,k*3+2,none⟩=some (.bool bg)/\w'.cell? ⟨gv,0,none⟩=some (.int .i64 vx)/\w'.cell? ⟨gv,1,none⟩=some (.slice vA vn vc)/\w'.cell? ⟨gv,2,none⟩=some (.bool vg)) 17 3 20 rfl (by kernel_rfl) (by kernel_rfl) (by kernel_rfl) rfl (zm (zv wr) (fun hB=>⟨zh hB tL t3,zh hB mL t4,zh hB aL a0,zh hB aL a1,zh hB aL a2,zh hB bL b0,zh hB bL b1,zh hB bL b2,zh hB vL q0,zh hB vL q1,zh hB vL q2⟩)) ?_ (fun hHeld=>?_)
      . intro _ _ _ _ _ h9;exact h9
      simp only [List.take_succ_cons,List.take_zero]
      iterate 17 refine zW ?_
      refine zM ?_;refine HH.rd 17 (fun K hK=>?_)
      go_simp
      go_at_call 130;refine (x7 _ _ _ _ _ (HBN.out.below hHeld.1.out) (HVN.out.below hHeld.1.out) (N1.out.le2 (by omega)) (HZ.out.le2 (by omega))).mono ?_;rintro e w2 ⟨v1,rfl,hv,hb2⟩;have HX1:=ze hv;have HHB2:=ze hb2;clear hv;have hH0:=hHeld;clear hHeld;refine hK.out _ _ (zm (zt hb2 hH0.1) (fun hB=>⟨zh hB tL t3,zh hB mL t4,zh hB aL a0,zh hB aL a1,zh hB aL a2,zh hB bL b0,zh hB bL b1,zh hB bL b2,zh hB vL q0,zh hB vL q1,zh hB vL q2⟩)) (fun hHeld=>?_);clear hH0 hK K
      try simp only [Act.put,List.setIfInBounds_toArray,List.set_cons_zero,List.set_cons_succ]
      clear hb2;refine HH.rd 18 (fun K hK=>?_)
      go_simp
      go_at_call 133;refine (zc9 _ _ _ _ _ (HA.out.below hHeld.1.out) HX1.out (HL.out k hkl) (Y6 N1.out HZ.out (by omega))).mono ?_;rintro e w3 ⟨v2,rfl,hv,hb2⟩;have HX2:=ze hv;clear hv HX1;have HCB:=ze (zt hb2 hHeld.1);have hH0:=hHeld;clear hHeld;refine hK.out _ _ (zm (zt hb2 hH0.1) (fun hB=>⟨zh hB tL t3,zh hB mL t4,zh hB aL a0,zh hB aL a1,zh hB aL a2,zh hB bL b0,zh hB bL b1,zh hB bL b2,zh hB vL q0,zh hB vL q1,zh hB vL q2⟩)) (fun hHeld=>?_);clear hH0 hK K
      try simp only [Act.put,List.setIfInBounds_toArray,List.set_cons_zero,List.set_cons_succ]
      clear hb2;refine HH.tk 19 ?_;have HBY:=(hHeld.1).out;replace HR:=ze (xy.below HR.out HBY);replace HT:=ze (yb.below HT.out HBY);replace HV:=ze (Zw.below HV.out HBY);clear HBY hHeld;refine HH.done (by kernel_rfl) ?_;simp only [List.drop_succ_cons,List.drop_zero];replace HC:=ze (znp HC.out HCB.out.out);clear HA HBN HVN N1 a0 a1 a2 b0 b1 b2 q0 q1 q2 tL mL aL bL vL t3 t4 HHB2 HCB;obtain ⟨sx,sA,sn,sc,sg,rfl,_,_,_⟩:=HX2.out.form;obtain ⟨u0,u1,u2,s0,s1,s2⟩:=HR.out.slots hkl;have z0:=HR.out.frozen (k*3);have z1:=HR.out.frozen (k*3+1);have z2:=HR.out.frozen (k*3+2);have hcn:=vE (w:=w3) (g:=gl) (k:=k) (x:=sx) (A:=sA) (n:=sn) (c:=sc) (ng:=sg)
      have HR2:Hid (xy (World.numAt w3 gl k sx sA sn sc sg) gl L L (fun j=>if j<k+1 then f j+T.cell i j*z else f j)):=HR.out.set hkl HX2.out (fun j hj=>by
       by_cases e:j=k
       . exact .inl ⟨e,by subst e;rw [if_pos (by omega)]⟩
       . refine .inr ⟨e,hj,?_⟩
         by_cases h:j<k
         . rw [if_pos h,if_pos (by omega)]
         . rw [if_neg h,if_neg (by omega)])
      have HT2:=ze (HT.out.chgRow HR.out hcn HNE.out);have hgv:gv≠gl:=by have:=HGL.out;omega
      have HV2:=ze (HV.out.chg hcn hgv (fun b e=>by subst e;exact HR.out.noDig));have HC2:Hid (Chg (· =gl) w (World.numAt w3 gl k sx sA sn sc sg)):=HC.out.trans hcn (fun _ _ h=>h);clear HR HT HV HC HX2 hcn hgv;go_wp2_with fail;go_roundw
      case rel=>first | exact ⟨k+1,by omega,by go_num,HR2,HT2,HV2,HC2⟩ | ((repeat apply Exists.intro);exact ⟨⟨k+1,by omega,by go_num,HR2,HT2,HV2,HC2⟩,rfl⟩)
      case measure=>simp [intOf];omega
    . obtain rfl:L=k:=by omega
      go_wp2_with fail
      go_end0
      refine ⟨rfl,HR.out.fewer (fun j hj=>⟨hj,?_⟩),HC.out⟩;unfold YC;rw [HFI.out];simp only [if_pos hj]
 | none=>
   obtain ⟨kk,hkk⟩:=Option.ne_none_iff_exists'.1 (HU.out hfi);have hkl:kk<L - 1:=zby _ _ hkk;have d1:decide (zf5 none ≥ 0)=false:=by decide
   have d3:zf5 none= -1:=rfl;have d4:zf5 (some kk)=(kk:Int):=rfl;obtain ⟨go,co,eo,hgo,hoc⟩:=HT.out.others;have t8:=HT.out.cell8;rw [eo] at t8;have hix:=zb8 go (L - 1) co T.other u W0 (by omega) hoc;rw [hkk,d4] at hix;have HFI:=ze hfi;have HKK:=ze hkk;have e1:IntKind.i64.wrap ((kk:Int)+1)=(kk:Int)+1:=by rw [IntKind.wrap_i64];omega
   clear hfi hkk HIX t7 hoc d4;have HIX:=ze hix;clear hix;go_wp2_with fail;refine HIX.out.mono ?_;rintro e w1 ⟨rfl,rfl⟩;obtain ⟨k,hk⟩:∃ k,k=kk+1:=⟨_,rfl⟩;have ek:(kk:Int)+1=(k:Int):=by omega
   have hkl2:k<L:=by omega
   have HK:=ze hk;clear hk t8 hkl HIX;have hki:(k:Int)<(L:Int):=by omega
   have hki0:(0:Int)<=(k:Int):=by omega
   obtain ⟨ax,aA,an,ac,ag,a0,a1,a2,ha⟩:=HR.out.2 k hkl2;obtain ⟨dx,dA,dn,dc,dg,hblk,hden⟩:=HT.out.blk;have d4:W0.cell? ⟨F.gt,4,none⟩=some (.int .i64 dx):=by rw [hblk.cell];rfl
   have d5:W0.cell? ⟨F.gt,5,none⟩=some (.slice dA dn dc):=by rw [hblk.cell];rfl
   have d6:W0.cell? ⟨F.gt,6,none⟩=some (.bool dg):=by rw [hblk.cell];rfl
   obtain ⟨vx,vA,vn,vc,vg,hkv,hvn⟩:=HV.out;have q0:=hkv.cell 0;have q1:=hkv.cell 1;have q2:=hkv.cell 2;simp at q0 q1 q2;have tL:=hblk.lt;have aL:=HR.out.lt;have vL:=hkv.lt;have HA:=ze ha;have HDN:=ze hden;have HVN:=ze hvn;clear ha hblk hden hkv hvn
   go_upto_region 9 with fail
   refine zr (S:=fun w' =>Hid (Below W0.heap.size W0 w')/\w'.cell? ⟨gl,k*3,none⟩=some (.int .i64 ax)/\w'.cell? ⟨gl,k*3+1,none⟩=some (.slice aA an ac)/\w'.cell? ⟨gl,k*3+2,none⟩=some (.bool ag)/\w'.cell? ⟨F.gt,4,none⟩=some (.int .i64 dx)/\w'.cell? ⟨F.gt,5,none⟩=some (.slice dA dn dc)/\w'.cell? ⟨F.gt,6,none⟩=some (.bool dg)/\w'.cell? ⟨gv,0,none⟩=some (.int .i64 vx)/\w'.cell? ⟨gv,1,none⟩=some (.slice vA vn vc)/\w'.cell? ⟨gv,2,none⟩=some (.bool vg)) 11 3 14 rfl (by kernel_rfl) (by kernel_rfl) (by kernel_rfl) rfl (zm (zv W0) (fun hB=>⟨zh hB aL a0,zh hB aL a1,zh hB aL a2,zh hB tL d4,zh hB tL d5,zh hB tL d6,zh hB vL q0,zh hB vL q1,zh hB vL q2⟩)) ?_ (fun hHeld=>?_)
   . intro _ _ _ _ _ h9;exact h9
   simp only [List.take_succ_cons,List.take_zero]
   iterate 11 refine zW ?_
   refine zM ?_;refine HH.rd 11 (fun K hK=>?_)
   go_simp
   go_at_call 130;refine (x7 _ _ _ _ _ (HDN.out.below hHeld.1.out) (HVN.out.below hHeld.1.out) (HF.out.fden.le2 (by omega)) (HZ.out.le2 (by omega))).mono ?_;rintro e w2 ⟨v1,rfl,hv,hb2⟩;have HX1:=ze hv;clear hv;have hH0:=hHeld;clear hHeld;refine hK.out _ _ (zm (zt hb2 hH0.1) (fun hB=>⟨zh hB aL a0,zh hB aL a1,zh hB aL a2,zh hB tL d4,zh hB tL d5,zh hB tL d6,zh hB vL q0,zh hB vL q1,zh hB vL q2⟩)) (fun hHeld=>?_);clear hH0 hK K
   try simp only [Act.put,List.setIfInBounds_toArray,List.set_cons_zero,List.set_cons_succ]
   clear hb2;refine HH.rd 12 (fun K hK=>?_)
   go_simp
   go_at_call 133;refine (zc9 _ _ _ _ _ (HA.out.below hHeld.1.out) HX1.out (HL.out k hkl2) (Y6 HF.out.fden HZ.out (by omega))).mono ?_;rintro e w3 ⟨v2,rfl,hv,hb2⟩;have HX2:=ze hv;clear hv HX1;have hH0:=hHeld;clear hHeld;refine hK.out _ _ (zm (zt hb2 hH0.1) (fun hB=>⟨zh hB aL a0,zh hB aL a1,zh hB aL a2,zh hB tL d4,zh hB tL d5,zh hB tL d6,zh hB vL q0,zh hB vL q1,zh hB vL q2⟩)) (fun hHeld=>?_);clear hH0 hK K
   try simp only [Act.put,List.setIfInBounds_toArray,List.set_cons_zero,List.set_cons_succ]
   clear hb2;refine HH.tk 13 ?_;have HBY:=(hHeld.1).out;replace HR:=ze (xy.below HR.out HBY);replace HC:=ze (znq HC.out HBY);clear HBY hHeld;refine HH.done (by kernel_rfl) ?_;simp only [List.drop_succ_cons,List.drop_zero];clear HA HDN HVN a0 a1 a2 d4 d5 d6 q0 q1 q2 tL aL vL HT HV;obtain ⟨sx,sA,sn,sc,sg,rfl,_,_,_⟩:=HX2.out.form;obtain ⟨u0,u1,u2,s0,s1,s2⟩:=HR.out.slots hkl2;have z0:=HR.out.frozen (k*3);have z1:=HR.out.frozen (k*3+1);have z2:=HR.out.frozen (k*3+2);have hcn:=vE (w:=w3) (g:=gl) (k:=k) (x:=sx) (A:=sA) (n:=sn) (c:=sc) (ng:=sg)
   have HR2:Hid (xy (World.numAt w3 gl k sx sA sn sc sg) gl L L (fun j=>f j+YC T m L u z j)):=HR.out.set hkl2 HX2.out (fun j hj=>by
    have hk:=HK.out;have e4:zf5 (some kk)=(kk:Int):=rfl;unfold YC;rw [HFI.out,HKK.out];simp only [e4]
    by_cases e:j=k
    . exact .inl ⟨e,by subst e;rw [if_pos (by omega)]⟩
    . exact .inr ⟨e,hj,by rw [if_neg (by omega),Int.add_zero]⟩)
   have HC2:Hid (Chg (· =gl) w (World.numAt w3 gl k sx sA sn sc sg)):=HC.out.trans hcn (fun _ _ h=>h);clear HR HC HX2 hcn;go_wp2_with fail
   go_end0
   exact ⟨rfl,HR2.out,HC2.out⟩
theorem zgq (gt i:Nat) (A:Option Addr) (nn c:Nat) (w:World) (hc:w.cell? ⟨gt,2,none⟩=some (.slice A nn c)) (hn:nn<=100000) (hi:i<=100000):
 Calls Tryz.prog 185 #[.pointer (some ⟨gt,0,none⟩),.int .i64 (i:Nat)] w (Vd w (.int .i64 ((2*nn+i:Nat):Int))):=by
 have h1:IntKind.i64.wrap (2*(nn:Int))=2*(nn:Int):=by rw [IntKind.wrap_i64];omega
 have h2:IntKind.i64.wrap (2*(nn:Int)+(i:Int))=2*(nn:Int)+(i:Int):=by rw [IntKind.wrap_i64];omega
 go_enter Tryz.func185,Tryz.ntmps185
 go_wp2_with fail
 go_ret
 exact ⟨by push_cast;rfl,rfl⟩
theorem zgn:(Tryz.prog.info? 3).map (fun i=>(i.zero,i.size,i.bytes))=some (some (.int .i64 0),1,8):=by kernel_rfl
theorem zes:(Tryz.prog.info? 187).map (fun i=>(i.zero,i.size,i.bytes))=some (some (.slice none 0 0),1,24):=by kernel_rfl
theorem Tryz.underlying194:Tryz.prog.underlying 194=some (.slice 187):=by kernel_rfl
theorem Tryz.underlyingInts:Tryz.prog.underlying 96=some (.slice 3):=by kernel_rfl
theorem zgv (gt m n c1 c2:Nat) (A1 A2:Option Addr) (w:World) (t1:w.cell? ⟨gt,1,none⟩=some (.slice A1 m c1)) (t2:w.cell? ⟨gt,2,none⟩=some (.slice A2 n c2)) (hm:m<=100000) (hn:n<=100000):
 Calls Tryz.prog 139 #[.pointer (some ⟨gt,0,none⟩)] w (Vc w (.int .i64 ((2*n+m:Nat):Int))):=by
 have h1:IntKind.i64.wrap (2*(n:Int))=2*(n:Int):=by rw [IntKind.wrap_i64];omega
 have h2:IntKind.i64.wrap (2*(n:Int)+(m:Int))=2*(n:Int)+(m:Int):=by rw [IntKind.wrap_i64];omega
 go_enter Tryz.func139,Tryz.ntmps139
 go_upto_region 1 with fail
 go_region
 go_wp2_with fail
 go_ret
 exact ⟨by push_cast;rfl,(zv w).out⟩
def BegR (w0:World) (b gt:Nat) (rv nv:Value) (rows:List yU) (names:List (List UInt8)) (iv sv:Value) (wr:World):Prop:=
 ∃ (i N:Nat) (g:Nat->Nat) (mv bv sv' :Value),i<=rows.length/\iv= .int .i64 i/\sv=sv' /\Hid (Ve w0 b rows.length gt N rv nv rows names g i i i 0 mv bv (.slice none 0 0) sv' (xo b rv nv mv bv (.slice none 0 0)) wr)
def BegI (w0:World) (b gt N gl gs:Nat) (rv nv tv:Value) (rows:List yU) (names:List (List UInt8)) (g:Nat->Nat) (i:Nat) (r:yU) (mv bv sv iv:Value) (wr:World):Prop:=
 ∃ (t:Nat),t<=r.terms.length/\iv= .int .i64 t/\Hid (Ve w0 b rows.length gt N rv nv rows names g i i (i+1) 0 mv bv (.slice none 0 0) sv (xo b rv nv mv bv (.slice none 0 0)) wr)/\Hid (zk wr w0.heap.size tv r.terms)/\
  Hid (xy wr gl (2*names.length+2) (2*names.length+2) (zq1 names (vO (qOf r.bound) (xq r)) (xq r) r.terms t))/\Hid (Zw wr gs (xq r))
def BegO (w0:World) (b gt:Nat) (rv nv:Value) (rows:List yU) (names:List (List UInt8)) (g:Nat->Nat) (mv bv sv iv:Value) (wr:World):Prop:=
 ∃ (k N:Nat) (ov:Value),k<=2*names.length/\iv= .int .i64 k/\Hid (Ve w0 b rows.length gt N rv nv rows names g (rows.length+1) rows.length rows.length k mv bv ov sv (xo b rv nv mv bv ov) wr)
theorem YN {w:World} {t:TypeId} {v:Value}:∀ (j:Nat) (u:Value),[v][j]?=some u->(w.alloc (.cells #[v] t)).cell? ((⟨w.heap.size,0,none⟩:Addr).add j)=some u:=by
 intro j u hu
 have hnew:=Blk.new w t #[v]
 match j with
 | 0=>
   simp at hu;subst hu;have:=hnew.cell 0
   simp [Addr.add]
 | j+1=>simp at hu
theorem vG {v:Value} {p:Value->Prop} (h:p v):∀ u∈[v],p u:=by intro u hu;rw [List.mem_singleton] at hu;subst hu;exact h
structure zrf (b:Nat) (rA:Option Addr) (rc:Nat) (nA:Option Addr) (nc:Nat) (rows:List yU) (names:List (List UInt8)) (w:World) (F:zS) (gs cs:Nat) (w' :World):Prop where
 bk:F.bk=some b
 rA:F.rA=rA
 rc:F.rc=rc
 nA:F.nA=nA
 nn:F.nn=names.length
 nc:F.nc=nc
 tab:yb w.heap.size rows.length (2*names.length+2) F w' (zmp rows names)
 scl:XO w' gs rows.length (zju rows)
 book:zB w' b
 chg:Chg (· =b) w w'
 sne:∀ i,i<=rows.length->F.g i≠gs
 sty:∃ cs,w'.heap[gs]?=some (.cells cs 91 (0,0))
theorem zg6 (b n c nn nc:Nat) (rA nA:Option Addr) (rows:List yU) (names:List (List UInt8)) (w:World) (hB:zB w b) (hr:xD w (.slice rA n c) rows) (hn:yg w w.heap.size (.slice nA nn nc) names)
 (hok:∀ r∈rows,zrw names r) (hm0:0<rows.length) (hmm:rows.length<=10000) (hnn:names.length<=400):
 Calls Tryz.prog 134 #[.map (some b),.slice rA n c,.slice nA nn nc] w (fun e w' =>∃ F gs cs,e= .returned (.tuple #[.pointer (some ⟨F.gt,0,none⟩),.slice (some ⟨gs,0,none⟩) rows.length cs])/\zrf b rA c nA nc rows names w F gs cs w'):=by
 obtain rfl:=hr.len
 obtain rfl:=hn.len
 have hx:=zf w (.cells (xo b (.slice rA rows.length c) (.slice nA names.length nc) (.slice none 0 0) (.slice none 0 0) (.slice none 0 0)) 196)
 have HS:Hid (Ve w b rows.length w.heap.size (w.heap.size+1) (.slice rA rows.length c) (.slice nA names.length nc) rows names (fun _=>0) 0 0 0 0 (.slice none 0 0) (.slice none 0 0) (.slice none 0 0) (.slice none 0 0)
  (xo b (.slice rA rows.length c) (.slice nA names.length nc) (.slice none 0 0) (.slice none 0 0) (.slice none 0 0)) (w.alloc (.cells (xo b (.slice rA rows.length c) (.slice nA names.length nc) (.slice none 0 0) (.slice none 0 0) (.slice none 0 0)) 196))):=by
  refine ⟨Blk.new _ _ _,?_,vC.nil _ _ _ _ _,Z2 _ _ _ _,Z2 _ _ _ _,vQ.nil _ _ _,hB.below hx,zV.below hr hx,hn.below hx,Chg.of_below hx,(fun j hj=>by omega),(fun c h=>by cases h),Nat.le_refl _,(by simp),hB.lt,Nat.lt_succ_self _,(fun j hj=>by omega),?_⟩
  rotate_left
  . intro c h
    rcases h with h | h | h | h<;>cases h
  refine ZC ?_
  unfold xo
  intro u hu
  simp at hu
  rcases hu with rfl | rfl | rfl | rfl | rfl | rfl | rfl | rfl
  all_goals first | exact zn3 _ | exact ys _ _ _ | exact xC _ | exact Zt _
 have HOK:=ze hok
 clear hB hr hn hx hok
 unfold xo at HS
 go_enter Tryz.func134,Tryz.ntmps134
 go_upto_region 4 with fail
 have HLO:=ze (Nat.le_refl w.heap.size)
 generalize w.alloc (.cells #[.map (some b),.slice rA rows.length c,.slice nA names.length nc,.slice none 0 0,.int .i64 1,.slice none 0 0,.bool false,.slice none 0 0,.slice none 0 0] 196)=W at HS |-
 obtain ⟨gt,hgt⟩:∃ gt,gt=w.heap.size:=⟨_,rfl⟩
 obtain ⟨N0,hN0⟩:∃ N,N=w.heap.size+1:=⟨_,rfl⟩
 rw [<- hN0, <- hgt] at HS
 rw [<- hgt]
 clear hgt hN0 HLO
 have hrd:=fun w' (h:zB w' b) (s:List UInt8) (hs:yo s)=>vD b ⟨s.toArray⟩ w' h (by rw [<- zo,yR];exact hs)
 simp only [yR] at hrd
 have HRD:=ze hrd
 have HNEG:=ze (fun w v z h=>yW v z w h)
 clear hrd
 have eL:IntKind.i64.wrap (2*(names.length:Int)+2)=2*(names.length:Int)+2:=by rw [IntKind.wrap_i64];omega
 have eLL:((2*names.length+2:Nat):Int)=2*(names.length:Int)+2:=by omega
 have HLL:=ze eLL
 clear eLL
 have eL1:IntKind.i64.wrap (2*(names.length:Int))=2*(names.length:Int):=by rw [IntKind.wrap_i64];omega
 obtain ⟨K3,hK3⟩:∃ K,K=2*names.length+1:=⟨_,rfl⟩
 have eL2:IntKind.i64.wrap (2*(names.length:Int)+1)=(K3:Int):=by rw [IntKind.wrap_i64];omega
 have eL3:(K3:Int)<2*(names.length:Int)+2:=by omega
 have eL4:(0:Int)<=(K3:Int):=by omega
 have HK3:=ze hK3
 have HK3L:Hid (K3<2*names.length+2):=by show _<_;omega
 clear hK3
 go_wp2_with fail
 go_loopw [35,10] (BegR w b gt (.slice rA rows.length c) (.slice nA names.length nc) rows names) (fun iv _ _=>rows.length - (intOf iv).toNat)
 case atStart=>exact ⟨0,_,_,_,_,_,Nat.zero_le _,rfl,rfl,HS⟩
 case round=>
  clear HS
  obtain ⟨i,N,g,mv,bv,sv,hi,rfl,rfl,HS⟩:=hrel
  by_cases hil:i<rows.length
  . have hii:(i:Int)<(rows.length:Int):=by omega
    obtain ⟨ad,AT,nt,ct,eA,hbb,p0,p1,ht,hsb⟩:=HS.out.rws.at_ hil;subst eA;obtain ⟨r,hr⟩:∃ r,r=rows[i]:=⟨_,rfl⟩;have hgd:rows.getD i default=r:=by rw [hr];simp [List.getD,List.getElem?_eq_getElem hil]
    have HRO:=ze (HOK.out r (by rw [hr];exact List.getElem_mem hil));have HGD:=ze hgd;rw [<- hr] at p1 ht hsb;clear hr hgd;obtain rfl:=ht.len;have htb:=ht.bound;have hx:=zf wr (.cells #[.slice AT r.terms.length ct,str r.bound] 49);have HK:=ze (Blk.new wr 49 #[.slice AT r.terms.length ct,str r.bound]);have HT:=ze (zk.below ht hx);have HSB:=ze hsb;replace HS:=ze (HS.out.below hx);clear hx ht hsb
    go_upto_region 7 with fail
    clear p0 p1 hbb;generalize wr.alloc (.cells #[.slice AT r.terms.length ct,str r.bound] 49)=W1 at HK HT HS |-;generalize wr.heap.size=gr at HK |-;have r0:=HK.out.cell 0;have r1:=HK.out.cell 1;simp at r0 r1;have hsc:=zcm b AT r.terms.length ct r.bound r.terms W1 HS.out.book (HT.out.more HS.out.chg.size) HSB.out HRO.out.ok;have HSC:=ze hsc;clear hsc;go_wp2_with fail;refine HSC.out.mono ?_;rintro e w2 ⟨v,rfl,hv,hB1,hc1⟩;obtain ⟨x2,A2,k2,c2,s2,rfl,_,_,_⟩:=hv.form;have hKk:=HS.out.book.keepBlk hc1 HK.out;replace HT:=ze (HS.out.book.keepT hc1 HT.out);replace HS:=ze (HS.out.read hc1 hB1);have hx:=zf w2 (.cells #[.int .i64 x2,.slice A2 k2 c2,.bool s2] 91);replace HK:=ze (hKk.below hx hKk.lt);replace HT:=ze (zk.below HT.out hx);have HGS:Hid (N<=w2.heap.size):=HS.out.top;replace HS:=ze (HS.out.below hx);have HKS:=ze (Blk.new w2 91 #[.int .i64 x2,.slice A2 k2 c2,.bool s2]);have HV:=ze (hv.below hx);clear hx hv hB1 hc1 hKk HSC r0 r1
    go_upto_region 8 with fail
    generalize w2.alloc (.cells #[.int .i64 x2,.slice A2 k2 c2,.bool s2] 91)=W2 at HK HT HS HKS HV |-;generalize w2.heap.size=gs at HKS HGS |-;have q0:=HKS.out.cell 0;have q1:=HKS.out.cell 1;have q2:=HKS.out.cell 2;simp at q0 q1 q2;have hx:=zf W2 (.cells #[.int .i64 x2,.slice A2 k2 c2,.bool s2] 91);have hnew:=Blk.new W2 91 #[.int .i64 x2,.slice A2 k2 c2,.bool s2]
    have hcell:∀ (j:Nat) (u:Value),[Value.int .i64 x2,.slice A2 k2 c2,.bool s2][j]?=some u->(W2.alloc (.cells #[.int .i64 x2,.slice A2 k2 c2,.bool s2] 91)).cell? ((⟨W2.heap.size,0,none⟩:Addr).add j)=some u:=by
     intro j u hu
     have e:((⟨W2.heap.size,0,none⟩:Addr).add j)=⟨W2.heap.size,j,none⟩:=by
      unfold Addr.add
      by_cases h:j=0
      . subst h;rfl
      . simp [h]
     rw [e,hnew.cell j, <- hu]
     simp
    have hone:∀ u∈[Value.int .i64 x2,.slice A2 k2 c2,.bool s2],u.oneCell' =true:=by intro u hu;simp at hu;rcases hu with rfl | rfl | rfl<;>rfl
    have hnoi:∀ u∈[Value.int .i64 x2,.slice A2 k2 c2,.bool s2],ZO u:=by
     intro u hu;simp at hu;rcases hu with rfl | rfl | rfl
     . exact xC _
     . exact ys _ _ _
     . exact Zt _
    have hzn:∀ u∈(Value.agg #[.int .i64 0,.slice none 0 0,.bool false]).cells,ZO u:=by
     intro u hu;simp [Value.cells] at hu;rcases hu with rfl | rfl | rfl
     . exact xC _
     . exact ys _ _ _
     . exact Zt _
    obtain ⟨i0,hi0,hz0,hz1,hz2⟩:=info_parts zhx;replace HK:=kb_ HK hx;replace HT:=ze (zk.below HT.out hx);replace HS:=ze (HS.out.below hx);replace HKS:=kb_ HKS hx;replace HV:=ze (HV.out.below hx);obtain ⟨xs,ho1,ho3⟩:=HS.out.scl;have HO1:=ze ho1;have HO3:=ze ho3;have HWS:Hid (w.heap.size<=(W2.alloc (.cells #[.int .i64 x2,.slice A2 k2 c2,.bool s2] 91)).heap.size):=HS.out.chg.size;clear hx hnew ho1 ho3;go_wp2_with (at_builtin;go_must (refine yz (P:=Tryz.prog) rfl (.tmp 43) (.tmp 45) _ rfl w.heap.size 91 i0 _ 3 40 Tryz.underlying187 hi0 hz0 hz1 hz2 rfl (by omega) _ i xs rfl HO1.out ⟨W2.heap.size,0,none⟩ 1 1 [.int .i64 x2,.slice A2 k2 c2,.bool s2] rfl rfl (by omega) hcell hone hnoi hzn ?o4 ?o5 ?o6 ?_))
    case o4=>unfold maxLen;omega
    case o5=>omega
    case o6=>exact HWS.out
    intro sv3 w3 hown3 hgr3 hat3;clear hcell hone hnoi hzn q0 q1 q2;have hP:vQ w3 w.heap.size sv3 (i+1) (zju rows):=vQ.push HO1.out HO3.out hown3 hgr3 HV.out (fun k hk=>rfl) (by show xq (rows.getD i default)=_;rw [HGD.out];rfl);have hsD:=fun x e=>HS.out.scl.noDig (c:=x) e
    have hcg:=vH hgr3;have hlt3:=HWS.out;have hg3:=hcg.size
    have hKb:Blk w3 gr 49 #[.slice AT r.terms.length ct,str r.bound]:=hcg.blk HK.out (fun e=>by
     obtain ⟨cs,k1⟩:=HS.out.scl.heap e
     exact xM HK.out k1 (by decide) rfl)
    have hNb:Zw w3 gs (xq r):=⟨_,_,_,_,_,hcg.blk HKS.out (fun e=>by have:=HS.out.oN _ (.inr (.inr (.inr e)));have:=HGS.out;omega),hcg.num HV.out hsD⟩;have hTb:zk w3 w.heap.size (.slice AT r.terms.length ct) r.terms:=HT.out.chg hcg (fun x hx e=>by have:=(HS.out.scl.lt x e).1;omega);replace HS:=ze (HS.out.scales hP hgr3 (by rw [World.size_alloc];exact hat3));replace HK:=ze hKb;replace HT:=ze hTb;have HNB:=ze hNb;have HGSL:=ze hNb.lt;obtain ⟨N1,hN1⟩:∃ N1,N1=w3.heap.size:=⟨_,rfl⟩;rw [<- hN1] at HS HGSL;have HN1:Hid (N1<=w3.heap.size):=Nat.le_of_eq hN1;clear hN1 hsD hcg hlt3 hg3 hKb hNb hTb hP hown3 hgr3 hat3 HKS HV HO1 HO3 HWS;have r1:=HK.out.cell 1;simp at r1;go_wp2_with fail;refine (HRD.out _ HS.out.book _ HSB.out).mono ?_;rintro e w4 ⟨v,ok,rfl,⟨x1,A1,k1,c1,s1,y1,B1,k1x,c1x,t1,rfl⟩,hokk,hq,hB1,hc1⟩;have hq1:=hq _ (Xc HRO.out.ok.bsome);have hKk:=HS.out.book.keepBlk hc1 HK.out;have hNk:=HS.out.book.keepBox hc1 HNB.out;replace HT:=ze (HS.out.book.keepT hc1 HT.out);replace HS:=ze (HS.out.read hc1 hB1);have HN4:Hid (N1<=w4.heap.size):=Nat.le_trans HN1.out hc1.size
    have hx:=zf w4 (.cells #[.int .i64 x1,.slice A1 k1 c1,.bool s1,.int .i64 y1,.slice B1 k1x c1x,.bool t1] 93);replace HK:=ze (hKk.below hx hKk.lt);replace HNB:=ze (hNk.below hx);replace HT:=ze (zk.below HT.out hx);replace HS:=ze (HS.out.below hx);have HKQ:=ze (Blk.new w4 93 #[.int .i64 x1,.slice A1 k1 c1,.bool s1,.int .i64 y1,.slice B1 k1x c1x,.bool t1]);have HQ:=ze (hq1.below hx);have HN5:Hid (N1<=(w4.alloc (.cells #[.int .i64 x1,.slice A1 k1 c1,.bool s1,.int .i64 y1,.slice B1 k1x c1x,.bool t1] 93)).heap.size):=Nat.le_trans HN4.out hx.size;clear hx hokk hq hB1 hc1 hq1 hKk hNk r1 HN1 HN4
    go_upto_region 10 with fail
    generalize w4.alloc (.cells #[.int .i64 x1,.slice A1 k1 c1,.bool s1,.int .i64 y1,.slice B1 k1x c1x,.bool t1] 93)=W5 at HK HNB HT HS HKQ HQ HN5 |-;generalize w4.heap.size=gq at HKQ |-;have hmk:=fun w=>zar .i64 (2*names.length+2) (by omega) w
    rw [HLL.out] at hmk
    go_upto_region 11 with fail
    have hx:=zf W5 (.cells (y7 (2*names.length+2)) 91);have HP:=ze (zde W5 (2*names.length+2));replace HK:=kb_ HK hx;have HLT2:=ze (show gs<W5.heap.size from HNB.out.lt);replace HNB:=ze (HNB.out.below hx);replace HT:=ze (zk.below HT.out hx);replace HS:=ze (HS.out.below hx);replace HKQ:=kb_ HKQ hx;replace HQ:=ze (HQ.out.below hx);clear hx hmk;generalize W5.alloc (.cells (y7 (2*names.length+2)) 91)=W6 at HK HNB HT HS HKQ HQ HP |-;generalize W5.heap.size=gl at HP HN5 HLT2 |-;have q0:=HKQ.out.cell 0;have q1:=HKQ.out.cell 1;have q2:=HKQ.out.cell 2;have q3:=HKQ.out.cell 3;have q4:=HKQ.out.cell 4;have q5:=HKQ.out.cell 5;simp at q0 q1 q2 q3 q4 q5;obtain ⟨sx,sA,sn,sc,sg,hks,hsn⟩:=HNB.out;have z0:=hks.cell 0;have z1:=hks.cell 1;have z2:=hks.cell 2;simp at z0 z1 z2;have htm:=zai _ _ _ _ W6 HQ.out hsn HRO.out.ok.blen (by have:=(HRO.out.ok.fit r.terms.length (Nat.le_refl _)).1;exact Nat.le_trans this (by omega));have HTM:=ze htm;clear hks hsn htm;go_wp2_with fail;refine HTM.out.mono ?_;rintro e w7 ⟨v,rfl,hv,hb1⟩;clear q0 q1 q2 q3 q4 q5 z0 z1 z2 HTM
    obtain ⟨x3,A3,k3,c3,s3,rfl,_,_,_⟩:=hv.form;replace HK:=kb_ HK hb1;replace HNB:=ze (HNB.out.below hb1);replace HT:=ze (zk.below HT.out hb1);replace HS:=ze (HS.out.below hb1);replace HP:=ze (HP.out.below hb1);obtain ⟨u0,u1,u2,s0,s1,s2⟩:=HP.out.slots (k:=0) (by omega);have f0:=HP.out.frozen (0*3);have f1:=HP.out.frozen (0*3+1);have f2:=HP.out.frozen (0*3+2);simp only [Nat.zero_mul,Nat.zero_add] at s0 s1 s2 f0 f1 f2;have hLp:0<2*names.length+2:=by omega
    have hcn:=vE (w:=w7) (g:=gl) (k:=0) (x:=x3) (A:=A3) (n:=k3) (c:=c3) (ng:=s3)
    have HP2:Hid (xy (World.numAt w7 gl 0 x3 A3 k3 c3 s3) gl (2*names.length+2) (2*names.length+2) (zq1 names (vO (qOf r.bound) (xq r)) (xq r) r.terms 0)):=HP.out.set hLp hv (fun j hj=>by
     by_cases e:j=0
     . exact .inl ⟨e,by subst e;rfl⟩
     . exact .inr ⟨e,hj,by show (if j=0 then _ else _)=_;rw [if_neg e]⟩)
    have hglD:∀ x,x=gl->N1<=x/\yn w7 x:=fun x e=>by subst e;exact ⟨HN5.out,HP.out.noDig⟩
    have HS2:=ze (HS.out.far hcn hglD);have hlog:=HS.out.lo;have hgtN:=HS.out.gtN;have HT2:Hid (zk (World.numAt w7 gl 0 x3 A3 k3 c3 s3) w.heap.size (.slice AT r.terms.length ct) r.terms):=HT.out.chg hcn (fun x hx e=>by have:=HN5.out;omega)
    have HK2:=ze (hcn.blk HK.out (fun e=>by
     obtain ⟨cs,k1⟩:=HP.out.heap;rw [<- e] at k1
     exact xM HK.out k1 (by decide) rfl))
    have HNB2:=ze (HNB.out.chg hcn (by have:=HLT2.out;omega) (fun x e=>(hglD x e).2));clear HS HT HK HP HNB hcn hglD hlog hgtN hb1 hv HKQ HQ;simp only [World.numAt,Nat.zero_mul,Nat.zero_add] at HP2 HS2 HT2 HK2 HNB2
    go_upto_region 12 with fail
    clear f0 f1 f2 s0 s1 s2 hLp;generalize ((w7.setCell ⟨gl,0,none⟩ (.int .i64 x3)).setCell ⟨gl,1,none⟩ (.slice A3 k3 c3)).setCell ⟨gl,2,none⟩ (.bool s3)=W8 at HP2 HS2 HT2 HK2 HNB2 |-;have r0:=HK2.out.cell 0;simp at r0;go_wp2_with fail;clear r0 HK2
    go_loopw [66] (BegI w b gt N1 gl gs (.slice (some ad) rows.length c) (.slice nA names.length nc) (.slice AT r.terms.length ct) rows names g i r mv bv sv3) (fun iv _=>r.terms.length - (intOf iv).toNat)
    case atStart=>exact ⟨0,Nat.zero_le _,rfl,HS2,HT2,HP2,HNB2⟩
    case round=>
     clear HP2 HS2 HT2 HNB2;obtain ⟨t,ht,rfl,HS,HT,HP,HNB⟩:=hrel
     by_cases htl:t<r.terms.length
     . have hti:(t:Int)<(r.terms.length:Int):=by omega
       obtain ⟨ad2,eA,hbb,p0,p1,hs1,hs2⟩:=HT.out.at_ htl;subst eA;have hgd:r.terms.getD t default=r.terms[t]:=by simp [List.getD,List.getElem?_eq_getElem htl]
       have HNO:=ze (HRO.out.nm _ (List.getElem_mem htl));have HGOOD:=ze (HRO.out.ok.good _ (List.getElem_mem htl));have HGT:=ze hgd;have HS2:=ze hs2;have hx:=zf wr (.cells #[str r.terms[t].name,str r.terms[t].coef] 60);have HK:=ze (Blk.new wr 60 #[str r.terms[t].name,str r.terms[t].coef]);replace HS:=ze (HS.out.below hx);replace HT:=ze (zk.below HT.out hx);replace HP:=ze (HP.out.below hx);replace HNB:=ze (HNB.out.below hx);clear hx hs1 hs2 hgd
       go_upto_region 15 with fail
       clear p0 p1 hbb;generalize wr.alloc (.cells #[str r.terms[t].name,str r.terms[t].coef] 60)=W1 at HK HS HT HP HNB |-;generalize wr.heap.size=gtm at HK |-;have p0:=HK.out.cell 0;have p1:=HK.out.cell 1;simp at p0 p1;have hbs:=XI nA names.length nc names r.terms[t].name w.heap.size _ W1 HS.out.nms HNO.out.lt HNO.out.at_ HNO.out.lo HNO.out.hi (by omega);have hpl:=HNO.out.lt;obtain ⟨p,hp⟩:∃ p,names.idxOf r.terms[t].name=p:=⟨_,rfl⟩;have HPOS:Hid (VM names r.terms t=p):=by show VM _ _ _=_;unfold VM;rw [HGT.out];exact hp
       rw [hp] at hbs hpl;have HBS:=ze hbs;clear hbs hp;go_wp2_with fail;refine HBS.out.mono ?_;rintro e w9 ⟨rfl,rfl⟩;clear HBS;go_wp2_with fail;refine (HRD.out _ HS.out.book _ HS2.out).mono ?_;rintro e w4 ⟨v,ok2,rfl,⟨x1,A1,k1,c1,s1,y1,B1,k1x,c1x,t1,rfl⟩,hokk,hq,hB1,hc1⟩;have hq1:=hq _ (Xc HGOOD.out.1);have hNk:=HS.out.book.keepBox hc1 HNB.out;have hbN:=HS.out.hb;have hloN:=HS.out.lo;have hgtN:=HS.out.gtN;have hPk:=HP.out.chg hc1 (by have:=HN5.out;omega) (fun x e=>by subst e;exact HS.out.book.noDig);replace HT:=ze (HS.out.book.keepT hc1 HT.out);replace HS:=ze (HS.out.read hc1 hB1);have hx:=zf w4 (.cells #[.int .i64 x1,.slice A1 k1 c1,.bool s1,.int .i64 y1,.slice B1 k1x c1x,.bool t1] 93);replace HP:=ze (hPk.below hx);replace HNB:=ze (hNk.below hx);replace HT:=ze (zk.below HT.out hx);replace HS:=ze (HS.out.below hx);have HKQ:=ze (Blk.new w4 93 #[.int .i64 x1,.slice A1 k1 c1,.bool s1,.int .i64 y1,.slice B1 k1x c1x,.bool t1]);have HQ:=ze (hq1.below hx);clear hx hokk hq hB1 hc1 hq1 hPk hNk p0 p1 HK hbN hloN hgtN
       go_upto_region 17 with fail
       generalize w4.alloc (.cells #[.int .i64 x1,.slice A1 k1 c1,.bool s1,.int .i64 y1,.slice B1 k1x c1x,.bool t1] 93)=W5 at HNB HT HS HKQ HQ HP |-;generalize w4.heap.size=gq at HKQ |-;have q0:=HKQ.out.cell 0;have q1:=HKQ.out.cell 1;have q2:=HKQ.out.cell 2;have q3:=HKQ.out.cell 3;have q4:=HKQ.out.cell 4;have q5:=HKQ.out.cell 5;simp at q0 q1 q2 q3 q4 q5;obtain ⟨sx,sA,sn,sc,sg,hks,hsn⟩:=HNB.out;have z0:=hks.cell 0;have z1:=hks.cell 1;have z2:=hks.cell 2;simp at z0 z1 z2;have htm:=zai _ _ _ _ W5 HQ.out hsn HGOOD.out.2 (by have:=(HRO.out.ok.fit r.terms.length (Nat.le_refl _)).1;exact Nat.le_trans this (by omega));have HTM:=ze htm;clear hks hsn htm;go_wp2_with fail;refine HTM.out.mono ?_;rintro e w7 ⟨v,rfl,hv,hb1⟩;clear q0 q1 q2 q3 q4 q5 z0 z1 z2 HTM HKQ HQ;obtain ⟨x4,A4,k4,c4,s4,rfl,_,_,_⟩:=hv.form;have HCO:Hid (vO (qOf r.terms[t].coef) (xq r)=YD (xq r) r.terms t):=by show _=_;unfold YD;rw [HGT.out]
       rw [HCO.out] at hv;have hx:=ext hb1 (zf w7 (.cells #[.int .i64 x4,.slice A4 k4 c4,.bool s4] 91));have hx7:=zf w7 (.cells #[.int .i64 x4,.slice A4 k4 c4,.bool s4] 91);have HKV:=ze (Blk.new w7 91 #[.int .i64 x4,.slice A4 k4 c4,.bool s4]);have HGV:Hid (W5.heap.size<=w7.heap.size):=hb1.size;have HGL5:=ze HP.out.lt;have HGS5:=ze HNB.out.lt;replace HP:=ze (HP.out.below hx);replace HNB:=ze (HNB.out.below hx);replace HT:=ze (zk.below HT.out hx);replace HS:=ze (HS.out.below hx);have HV:=ze (hv.below hx7);clear hx hx7 hv hb1
       go_upto_region 18 with fail
       generalize w7.alloc (.cells #[.int .i64 x4,.slice A4 k4 c4,.bool s4] 91)=W7 at HNB HT HS HP HKV HV |-;generalize w7.heap.size=gv at HKV HGV |-;have q0:=HKV.out.cell 0;have q1:=HKV.out.cell 1;have q2:=HKV.out.cell 2;simp at q0 q1 q2;have vL:=HKV.out.lt;obtain ⟨K1,hK1⟩:∃ K,K=1+2*p:=⟨_,rfl⟩;obtain ⟨K2,hK2⟩:∃ K,K=2+2*p:=⟨_,rfl⟩;have e1:IntKind.i64.wrap (2*(p:Int))=2*(p:Int):=by rw [IntKind.wrap_i64];omega
       have e2:IntKind.i64.wrap (1+2*(p:Int))=(K1:Int):=by rw [IntKind.wrap_i64];omega
       have e3:IntKind.i64.wrap (2+2*(p:Int))=(K2:Int):=by rw [IntKind.wrap_i64];omega
       have e4:(K1:Int)<2*(names.length:Int)+2:=by omega
       have e5:(K2:Int)<2*(names.length:Int)+2:=by omega
       have e6:(0:Int)<=(K1:Int):=by omega
       have e7:(0:Int)<=(K2:Int):=by omega
       have HK1:=ze hK1;have HK2:=ze hK2;have HKL:Hid (K1<2*names.length+2/\K2<2*names.length+2):=⟨by omega,by omega⟩;clear hK1 hK2;have hgv:¬ gv=gl:=by have:=HGV.out;have:=HGL5.out;omega
       refine zr (S:=fun w' =>Hid (Chg (fun x=>x=gl) W7 w')/\w'.cell? ⟨gv,0,none⟩=some (.int .i64 x4)/\w'.cell? ⟨gv,1,none⟩=some (.slice A4 k4 c4)/\w'.cell? ⟨gv,2,none⟩=some (.bool s4)) 9 4 13 rfl (by kernel_rfl) (by kernel_rfl) (by kernel_rfl) rfl (zm (vT W7) (fun hB=>⟨zH hB q0 hgv,zH hB q1 hgv,zH hB q2 hgv⟩)) ?_ (fun hHeld=>?_)
       . intro _ _ _ _ _ h9;exact h9
       simp only [List.take_succ_cons,List.take_zero]
       iterate 9 refine zW ?_
       refine zM ?_;refine HH.tk 10 ?_;refine HH.rd 9 (fun K hK=>?_)
       go_simp
       go_at_call 161;refine (yW _ _ _ (HV.out.below (zv W7).out)).mono ?_;rintro e w8 ⟨v1,rfl,hv,hb2⟩;have hb7:Below W7.heap.size W7 w8:=ext (zv W7).out hb2;have HX1:=ze hv;replace HP:=ze (HP.out.below hb7);replace HNB:=ze (HNB.out.below hb7);replace HT:=ze (zk.below HT.out hb7);replace HS:=ze (HS.out.below hb7);replace HV:=ze (HV.out.below hb7);clear hv hb7;have hH0:=hHeld;clear hHeld;refine hK.out _ _ (zm (vP hb2 hH0.1) (fun hB=>⟨zH hB q0 hgv,zH hB q1 hgv,zH hB q2 hgv⟩)) (fun hHeld=>?_);clear hH0 hK K
       try simp only [Act.put,List.setIfInBounds_toArray,List.set_cons_zero,List.set_cons_succ]
       clear hb2;obtain ⟨x5,A5,k5,c5,s5,rfl,_,_,_⟩:=HX1.out.form;obtain ⟨u0,u1,u2,j0,j1,j2⟩:=HP.out.slots HKL.out.1;have f0:=HP.out.frozen (K1*3);have f1:=HP.out.frozen (K1*3+1);have f2:=HP.out.frozen (K1*3+2);have hcn1:=vE (w:=w8) (g:=gl) (k:=K1) (x:=x5) (A:=A5) (n:=k5) (c:=c5) (ng:=s5);have hglD:∀ x,x=gl->N1<=x/\yn w8 x:=fun x e=>by subst e;exact ⟨HN5.out,HP.out.noDig⟩
       have HP1:Hid (xy (World.numAt w8 gl K1 x5 A5 k5 c5 s5) gl (2*names.length+2) (2*names.length+2) (fun j=>if j=K1 then -(YD (xq r) r.terms t) else zq1 names (vO (qOf r.bound) (xq r)) (xq r) r.terms t j)):=HP.out.set HKL.out.1 HX1.out (fun j hj=>by
        by_cases e:j=K1
        . exact .inl ⟨e,by rw [if_pos e]⟩
        . exact .inr ⟨e,hj,by rw [if_neg e]⟩)
       have HV1:=ze (hcn1.num HV.out (fun x e=>(hglD x e).2));have HS1:=ze (HS.out.far hcn1 hglD);have hne1:¬ gs=gl:=by have:=HLT2.out;omega
       have HNB1:=ze (HNB.out.chg hcn1 hne1 (fun x e=>(hglD x e).2));have hbw:=HS.out.chg.size;have hloN:=HS.out.lo;have hgtN:=HS.out.gtN;have HT1:=ze (HT.out.chg hcn1 (fun x hx e=>by have:=HN5.out;omega));have hcn2:=vE (w:=World.numAt w8 gl K1 x5 A5 k5 c5 s5) (g:=gl) (k:=K2) (x:=x4) (A:=A4) (n:=k4) (c:=c4) (ng:=s4);have hglE:∀ x,x=gl->N1<=x/\yn (World.numAt w8 gl K1 x5 A5 k5 c5 s5) x:=fun x e=>by subst e;exact ⟨HN5.out,HP1.out.noDig⟩
       have HP2:Hid (xy (World.numAt (World.numAt w8 gl K1 x5 A5 k5 c5 s5) gl K2 x4 A4 k4 c4 s4) gl (2*names.length+2) (2*names.length+2) (zq1 names (vO (qOf r.bound) (xq r)) (xq r) r.terms (t+1))):=HP1.out.set HKL.out.2 HV1.out (fun j hj=>by
        have h1:=HK1.out;have h2:=HK2.out;have h3:=HPOS.out
        show (j=K2/\(if j=1+2*VM names r.terms t then _ else if j=2+2*VM names r.terms t then _ else _)=_)\/(j≠K2/\j<_/\(if j=1+2*VM names r.terms t then _ else if j=2+2*VM names r.terms t then _ else _)=_)
        rw [h3, <- h1, <- h2]
        by_cases e:j=K2
        . exact .inl ⟨e,by rw [if_neg (by omega),if_pos e]⟩
        . refine .inr ⟨e,hj,?_⟩
          by_cases e' :j=K1
          . rw [if_pos e',if_pos e']
          . rw [if_neg e',if_neg e,if_neg e'])
       obtain ⟨u3,u4,u5,j3,j4,j5⟩:=HP1.out.slots HKL.out.2;have f3:=HP1.out.frozen (K2*3);have f4:=HP1.out.frozen (K2*3+1);have f5:=HP1.out.frozen (K2*3+2);have HSX:=ze (HS1.out.far hcn2 hglE);have HNX:=ze (HNB1.out.chg hcn2 hne1 (fun x e=>(hglE x e).2));have HTX:=ze (HT1.out.chg hcn2 (fun x hx e=>by have:=HN5.out;omega));have hk1:Hid (Chg (fun x=>x=gl) w8 (World.numAt w8 gl K1 x5 A5 k5 c5 s5)):=hcn1;clear HS1 HNB1 HT1 HV1 HP1 hcn1 hcn2 hglD hglE HS HP HT HNB HV HX1 hne1 hbw hloN hgtN HKV vL HGV;simp only [World.numAt] at HP2 HSX HNX HTX j3 j4 j5 f3 f4 f5 hk1;refine HH.tk 11 ?_;refine HH.rd 12 (fun K hK=>?_)
       go_simp
       have hH0:=hHeld;clear hHeld;refine hK.out _ _ (zm (Z7 hk1.out hH0.1) (fun hB=>⟨zH hB q0 hgv,zH hB q1 hgv,zH hB q2 hgv⟩)) (fun hHeld=>?_);clear hH0 hK K
       try simp only [Act.put,List.setIfInBounds_toArray,List.set_cons_zero,List.set_cons_succ]
       clear hk1;have HBY:=(hHeld.1).out;clear HBY hHeld;refine HH.done (by kernel_rfl) ?_;simp only [List.drop_succ_cons,List.drop_zero];clear q0 q1 q2 hgv;go_wp2_with fail;go_roundw
       case rel=>first | exact ⟨t+1,by omega,by go_num,HSX,HTX,HP2,HNX⟩ | ((repeat apply Exists.intro);exact ⟨⟨t+1,by omega,by go_num,HSX,HTX,HP2,HNX⟩,rfl⟩)
       case measure=>simp [intOf];omega
     . obtain rfl:r.terms.length=t:=by omega
       skip
       obtain ⟨u0,u1,u2,j0,j1,j2⟩:=HP.out.slots HK3L.out;have f0:=HP.out.frozen (K3*3);have f1:=HP.out.frozen (K3*3+1);have f2:=HP.out.frozen (K3*3+2);have hcn:=vE (w:=wr) (g:=gl) (k:=K3) (x:=1) (A:=none) (n:=0) (c:=0) (ng:=false);have hglD:∀ x,x=gl->N1<=x/\yn wr x:=fun x e=>by subst e;exact ⟨HN5.out,HP.out.noDig⟩
       have hone1:zR wr (.agg #[.int .i64 1,.slice none 0 0,.bool false]) 1:=.inl ⟨1,false,rfl,by omega,by omega,rfl⟩
       have HP2:Hid (xy (World.numAt wr gl K3 1 none 0 0 false) gl (2*names.length+2) (2*names.length+2) (zm4 names r)):=HP.out.set HK3L.out hone1 (fun j hj=>by
        have h1:=HK3.out
        show (j=K3/\(if j=2*names.length+1 then _ else _)=_)\/(j≠K3/\j<_/\(if j=2*names.length+1 then _ else _)=_)
        rw [<- h1]
        by_cases e:j=K3
        . exact .inl ⟨e,if_pos e⟩
        . exact .inr ⟨e,hj,if_neg e⟩)
       have HS2:=ze (HS.out.far hcn hglD);clear HS HP HT HNB hcn hglD hone1;simp only [World.numAt] at HP2 HS2
       go_upto_region 21 with fail
       clear j0 j1 j2 f0 f1 f2;generalize ((wr.setCell ⟨gl,K3*3,none⟩ (.int .i64 1)).setCell ⟨gl,K3*3+1,none⟩ (.slice none 0 0)).setCell ⟨gl,K3*3+2,none⟩ (.bool false)=W2 at HP2 HS2 |-;have c3:W2.cell? ⟨gt,3,none⟩=some mv:=by rw [HS2.out.blk.cell];rfl
       have hx:=zf W2 (.cells #[.slice (some ⟨gl,0,none⟩) (2*names.length+2) (2*names.length+2)] 187);have HS3:=ze (HS2.out.below hx);have HP3:=ze (HP2.out.below hx);have HWS:Hid (w.heap.size<=(W2.alloc (.cells #[.slice (some ⟨gl,0,none⟩) (2*names.length+2) (2*names.length+2)] 187)).heap.size):=HS3.out.chg.size;have hcell:=YN (w:=W2) (t:=187) (v:=.slice (some ⟨gl,0,none⟩) (2*names.length+2) (2*names.length+2));have hone:=vG (v:=.slice (some ⟨gl,0,none⟩) (2*names.length+2) (2*names.length+2)) (p:=fun u=>u.oneCell' =true) rfl;have hnoi:=vG (v:=.slice (some ⟨gl,0,none⟩) (2*names.length+2) (2*names.length+2)) (p:=ZO) (ys _ _ _);have hzn:∀ u∈(Value.slice none 0 0).cells,ZO u:=by intro u hu;simp [Value.cells] at hu;subst hu;exact ys _ _ _
       obtain ⟨i0,hi0,hz0,hz1,hz2⟩:=info_parts zes;clear hx HS2 HP2;go_wp2_with (at_builtin;go_must (refine yz (P:=Tryz.prog) rfl (.tmp 111) (.tmp 113) _ rfl w.heap.size 187 i0 _ 1 24 Tryz.underlying194 hi0 hz0 hz1 hz2 rfl (by omega) _ i _ rfl HS3.out.mat.own ⟨W2.heap.size,0,none⟩ 1 1 [.slice (some ⟨gl,0,none⟩) (2*names.length+2) (2*names.length+2)] rfl rfl (by omega) hcell hone hnoi hzn ?o4 ?o5 ?o6 ?_))
       case o4=>unfold maxLen;omega
       case o5=>omega
       case o6=>exact HWS.out
       intro mv3 w4 hown hgr hat;obtain ⟨gm3,cap3,emv,_,_⟩:=hown.1.form (by omega);subst emv;have hrow:=HS3.out.row HP3.out HN5.out (fun j hj=>by unfold zpl;rw [if_pos hil,HGD.out]) hown hgr;have c4:w4.cell? ⟨gt,3,none⟩=some mv:=by rw [hrow.blk.cell];rfl
       have f4:=hrow.blk.frozen 3;have HS4:=ze (hrow.store 3 (xG hown));rw [show (xo b (.slice (some ad) rows.length c) (.slice nA names.length nc) mv bv (.slice none 0 0)).setIfInBounds 3 (.slice (some ⟨gm3,0,none⟩) (i+1) cap3)=xo b (.slice (some ad) rows.length c) (.slice nA names.length nc) (.slice (some ⟨gm3,0,none⟩) (i+1) cap3) bv (.slice none 0 0) from rfl] at HS4;generalize w4.heap.size=N2 at HS4;generalize (fun j=>if j=i then gl else g j)=g2 at HS4;clear hown hgr hat hrow HS3 HP3 HWS hcell hone hnoi hzn c3 HN5 HLT2 HGSL
       go_upto_region 22 with fail
       clear c4 f4;generalize w4.setCell ⟨gt,3,none⟩ (.slice (some ⟨gm3,0,none⟩) (i+1) cap3)=W5 at HS4 |-;have b7:W5.cell? ⟨gt,7,none⟩=some bv:=by rw [HS4.out.blk.cell];rfl
       have b2:W5.cell? ⟨gt,2,none⟩=some (.slice nA names.length nc):=by rw [HS4.out.blk.cell];rfl
       have hg7:¬ bv.ownBlock=some gt:=fun e=>by
        obtain ⟨cs,k1⟩:=HS4.out.bas.heap e;exact xM HS4.out.blk k1 (by decide) rfl
       obtain ⟨B9,hB9⟩:∃ B9,B9=2*names.length+i:=⟨_,rfl⟩;have hsl:=fun w' (h:w'.cell? ⟨gt,2,none⟩=some (.slice nA names.length nc))=>zgq gt i nA names.length nc w' h (by omega) (by omega)
       rw [<- hB9] at hsl;have HSL:=ze hsl;have HB9:=ze hB9;clear hsl hB9;refine zr (S:=fun w' =>Hid (Chg (fun x=>bv.ownBlock=some x) W5 w')/\w'.cell? ⟨gt,7,none⟩=some bv/\w'.cell? ⟨gt,2,none⟩=some (.slice nA names.length nc)) 7 5 12 rfl (by kernel_rfl) (by kernel_rfl) (by kernel_rfl) rfl (zm (vT W5) (fun hB=>⟨zH hB b7 hg7,zH hB b2 hg7⟩)) ?_ (fun hHeld=>?_)
       . intro _ _ _ _ _ h9;exact h9
       simp only [List.take_succ_cons,List.take_zero]
       iterate 7 refine zW ?_
       refine zM ?_;refine HH.rd 7 (fun K hK=>?_)
       go_simp
       go_at_call 185;refine (HSL.out _ hHeld.2.2).mono ?_;rintro e w9 ⟨rfl,rfl⟩;have hH0:=hHeld;clear hHeld;refine hK.out _ _ (zm (hH0.1) (fun hB=>⟨zH hB b7 hg7,zH hB b2 hg7⟩)) (fun hHeld=>?_);clear hH0 hK K
       try simp only [Act.put,List.setIfInBounds_toArray,List.set_cons_zero,List.set_cons_succ]
       clear HSL;refine HH.rd 8 (fun K hK=>?_)
       go_simp
       have hbx:=(yF W5 (.cells #[.int .i64 (B9:Int)] 3)).out;have HS5:=ze (HS4.out.below hbx);have hkp:Hid (Chg (fun x=>bv.ownBlock=some x) W5 (W5.alloc (.cells #[.int .i64 (B9:Int)] 3)).drew):=Chg.of_below hbx;have hH0:=hHeld;clear hHeld;refine hK.out _ _ (zm (hkp) (fun hB=>⟨zH hB b7 hg7,zH hB b2 hg7⟩)) (fun hHeld=>?_);clear hH0 hK K
       try simp only [Act.put,List.setIfInBounds_toArray,List.set_cons_zero,List.set_cons_succ]
       clear hkp hbx HS4;have hcell:=YN (w:=W5) (t:=3) (v:=.int .i64 (B9:Int));have hone:=vG (v:=.int .i64 (B9:Int)) (p:=fun u=>u.oneCell' =true) rfl;have hnoi:=vG (v:=.int .i64 (B9:Int)) (p:=ZO) (xC _);have hzn:∀ u∈(Value.int .i64 0).cells,ZO u:=by intro u hu;simp [Value.cells] at hu;subst hu;exact xC _
       obtain ⟨i1,hi0,hz0,hz1,hz2⟩:=info_parts zgn;have hws:=HS5.out.chg.size;refine HH.ready (rs:=[9]) (by kernel_rfl) (by simp) (by kernel_rfl) ?_;refine yO.cons (o:=_) rfl (fun K hK=>?_) yO.nil;rw [if_pos (by rfl)];refine vj (P:=Tryz.prog) (.tmp 121) (.tmp 125) _ rfl w.heap.size 3 i1 _ 1 8 Tryz.underlyingInts hi0 hz0 hz1 hz2 rfl (by omega) _ i _ rfl HS5.out.bas ⟨W5.heap.size,0,none⟩ 1 1 [.int .i64 (B9:Int)] rfl rfl (by omega) hcell hone hnoi hzn (by unfold maxLen;omega) (by omega) hws ?_;intro bv3 w6 hown hgr hat;obtain ⟨gb3,capb,ebv,_,_⟩:=hown.1.form (by omega);subst ebv;rw [show [Value.int .i64 (B9:Int)]=[.int .i64 (zsk names.length i:Nat)] by rw [HB9.out];rfl,Y5] at hown;have hbas:=HS5.out.basic hown hgr hat;have c7:w6.cell? ⟨gt,7,none⟩=some bv:=by rw [hbas.blk.cell];rfl
       have f7:=hbas.blk.frozen 7;have HS7:=ze (hbas.store 7 (xG hown));rw [show ∀ mv:Value,(xo b (.slice (some ad) rows.length c) (.slice nA names.length nc) mv bv (.slice none 0 0)).setIfInBounds 7 (.slice (some ⟨gb3,0,none⟩) (i+1) capb)=xo b (.slice (some ad) rows.length c) (.slice nA names.length nc) mv (.slice (some ⟨gb3,0,none⟩) (i+1) capb) (.slice none 0 0) from fun _=>rfl] at HS7;have hH0:=hHeld;clear hHeld;refine hK.out _ _ (zm (Z7 (vH hgr) hH0.1) (fun hB=>⟨zH hB b7 hg7,zH hB b2 hg7⟩)) (fun hHeld=>?_);clear hH0 hK K
       try simp only [Act.put,List.setIfInBounds_toArray,List.set_cons_zero,List.set_cons_succ]
       clear hown hgr hat hbas HS5 hcell hone hnoi hzn hws b7 b2 hg7;refine HH.tk 10 ?_;refine HH.tk 11 ?_;have HBY:=(hHeld.1).out;clear HBY hHeld;refine HH.done (by kernel_rfl) ?_;simp only [List.drop_succ_cons,List.drop_zero];go_wp2_with fail;go_roundw
       case rel=>exact ⟨i+1,_,_,_,_,_,by omega,by go_num,rfl,HS7⟩
       case measure=>simp [intOf];omega
  . obtain rfl:rows.length=i:=by omega
    obtain ⟨gs,cs,esv,_,_⟩:=HS.out.scl.choose_spec.1.1.form hm0;subst esv;have b3:wr.cell? ⟨gt,3,none⟩=some mv:=by rw [HS.out.blk.cell];rfl
    have hg3:¬ mv.ownBlock=some gt:=fun e=>by
     obtain ⟨cs,k1⟩:=HS.out.mat.own.heap e;exact xM HS.out.blk k1 (by decide) rfl
    have hmk:=fun w=>zar .i64 (2*names.length+2) (by omega) w
    rw [HLL.out] at hmk
    go_upto_region 24 with fail
    refine zr (S:=fun w' =>Hid (Chg (fun x=>mv.ownBlock=some x) wr w')/\w'.cell? ⟨gt,3,none⟩=some mv) 8 5 13 rfl (by kernel_rfl) (by kernel_rfl) (by kernel_rfl) rfl (zm (vT wr) (fun hB=>zH hB b3 hg3)) ?_ (fun hHeld=>?_)
    . intro _ _ _ _ _ h9;exact h9
    simp only [List.take_succ_cons,List.take_zero]
    iterate 8 refine zW ?_
    refine zM ?_;refine HH.rd 8 (fun K hK=>?_)
    go_simp
    have hbx:=(yF wr (.cells (y7 (2*names.length+2)) 91)).out;have hkp:Hid (Chg (fun x=>mv.ownBlock=some x) wr (wr.alloc (.cells (y7 (2*names.length+2)) 91)).drew):=Chg.of_below hbx;have hH0:=hHeld;clear hHeld;refine hK.out _ _ (zm (hkp) (fun hB=>zH hB b3 hg3)) (fun hHeld=>?_);clear hH0 hK K
    try simp only [Act.put,List.setIfInBounds_toArray,List.set_cons_zero,List.set_cons_succ]
    clear hkp hbx hmk;refine HH.rd 9 (fun K hK=>?_)
    go_simp
    have hx2:=zf (wr.alloc (.cells (y7 (2*names.length+2)) 91)) (.cells #[.slice (some ⟨wr.heap.size,0,none⟩) (2*names.length+2) (2*names.length+2)] 187);have hbx:=zl (ext (zf wr (.cells (y7 (2*names.length+2)) 91)) hx2) 1;have hb1:=zl hx2 1;have HP3:=ze ((zde wr (2*names.length+2)).below hb1);have HNL:=ze HS.out.top;have HS3:=ze (HS.out.below hbx);have hcell:=YN (w:=wr.alloc (.cells (y7 (2*names.length+2)) 91)) (t:=187) (v:=.slice (some ⟨wr.heap.size,0,none⟩) (2*names.length+2) (2*names.length+2));have hkp:Hid (Chg (fun x=>mv.ownBlock=some x) wr ((wr.alloc (.cells (y7 (2*names.length+2)) 91)).alloc (.cells #[.slice (some ⟨wr.heap.size,0,none⟩) (2*names.length+2) (2*names.length+2)] 187)).drew):=Chg.of_below hbx;have hws:=HS3.out.chg.size;have hH0:=hHeld;clear hHeld;refine hK.out _ _ (zm (hkp) (fun hB=>zH hB b3 hg3)) (fun hHeld=>?_);clear hH0 hK K
    try simp only [Act.put,List.setIfInBounds_toArray,List.set_cons_zero,List.set_cons_succ]
    clear hkp hbx hx2 hb1 HS;have hone:=vG (v:=.slice (some ⟨wr.heap.size,0,none⟩) (2*names.length+2) (2*names.length+2)) (p:=fun u=>u.oneCell' =true) rfl;have hnoi:=vG (v:=.slice (some ⟨wr.heap.size,0,none⟩) (2*names.length+2) (2*names.length+2)) (p:=ZO) (ys _ _ _);have hzn:∀ u∈(Value.slice none 0 0).cells,ZO u:=by intro u hu;simp [Value.cells] at hu;subst hu;exact ys _ _ _
    obtain ⟨i1,hi0,hz0,hz1,hz2⟩:=info_parts zes;refine HH.ready (rs:=[10]) (by kernel_rfl) (by simp) (by kernel_rfl) ?_;refine yO.cons (o:=_) rfl (fun K hK=>?_) yO.nil;rw [if_pos (by rfl)];refine vj (P:=Tryz.prog) (.tmp 134) (.tmp 139) _ rfl w.heap.size 187 i1 _ 1 24 Tryz.underlying194 hi0 hz0 hz1 hz2 rfl (by omega) _ rows.length _ rfl HS3.out.mat.own ⟨(wr.alloc (.cells (y7 (2*names.length+2)) 91)).heap.size,0,none⟩ 1 1 [.slice (some ⟨wr.heap.size,0,none⟩) (2*names.length+2) (2*names.length+2)] ?_ rfl (by omega) hcell hone hnoi hzn (by unfold maxLen;omega) (by omega) hws ?_
    . simp [Act.eval,World.size_alloc]
    intro mv3 w6 hown hgr hat;obtain ⟨gm3,cap3,emv,_,_⟩:=hown.1.form (by omega);subst emv;have hrow:=HS3.out.row HP3.out HNL.out (fun j hj=>by unfold zpl;rw [if_neg (by omega)]) hown hgr;have c4:w6.cell? ⟨gt,3,none⟩=some mv:=by rw [hrow.blk.cell];rfl
    have f4:=hrow.blk.frozen 3;have HS4:=ze (hrow.store 3 (xG hown));rw [show (xo b (.slice rA rows.length c) (.slice nA names.length nc) mv bv (.slice none 0 0)).setIfInBounds 3 (.slice (some ⟨gm3,0,none⟩) (rows.length+1) cap3)=xo b (.slice rA rows.length c) (.slice nA names.length nc) (.slice (some ⟨gm3,0,none⟩) (rows.length+1) cap3) bv (.slice none 0 0) from rfl] at HS4;generalize w6.heap.size=N2 at HS4;generalize (fun j=>if j=rows.length then wr.heap.size else g j)=g2 at HS4;have hH0:=hHeld;clear hHeld;refine hK.out _ _ (zm (Z7 (vH hgr) hH0.1) (fun hB=>zH hB b3 hg3)) (fun hHeld=>?_);clear hH0 hK K
    try simp only [Act.put,List.setIfInBounds_toArray,List.set_cons_zero,List.set_cons_succ]
    clear hown hgr hat hrow HS3 HP3 HNL hcell hone hnoi hzn hws b3 hg3;refine HH.tk 11 ?_;refine HH.tk 12 ?_;have HBY:=(hHeld.1).out;clear HBY hHeld;refine HH.done (by kernel_rfl) ?_;simp only [List.drop_succ_cons,List.drop_zero]
    go_upto_region 25 with fail
    clear c4 f4;generalize w6.setCell ⟨gt,3,none⟩ (.slice (some ⟨gm3,0,none⟩) (rows.length+1) cap3)=W7 at HS4 |-;go_wp2_with fail
    go_loopw [145] (BegO w b gt (.slice rA rows.length c) (.slice nA names.length nc) rows names g2 (.slice (some ⟨gm3,0,none⟩) (rows.length+1) cap3) bv (.slice (some ⟨gs,0,none⟩) rows.length cs)) (fun iv _=>2*names.length - (intOf iv).toNat)
    case atStart=>exact ⟨0,_,_,Nat.zero_le _,rfl,HS4⟩
    case round=>
     clear HS4;obtain ⟨k,N,ov,hk,rfl,HS⟩:=hrel
     by_cases hkl:k<2*names.length
     . have hki:(k:Int)<2*(names.length:Int):=by omega
       have c8:wr.cell? ⟨gt,8,none⟩=some ov:=by rw [HS.out.blk.cell];rfl
       have hx:=zf wr (.cells #[.int .i64 (k:Int)] 3);have HS3:=ze (HS.out.below hx);have hws:=HS3.out.chg.size;have HWS:=ze hws;have hcell:=YN (w:=wr) (t:=3) (v:=.int .i64 (k:Int));have hone:=vG (v:=.int .i64 (k:Int)) (p:=fun u=>u.oneCell' =true) rfl;have hnoi:=vG (v:=.int .i64 (k:Int)) (p:=ZO) (xC _);have hzn:∀ u∈(Value.int .i64 0).cells,ZO u:=by intro u hu;simp [Value.cells] at hu;subst hu;exact xC _
       obtain ⟨i1,hi0,hz0,hz1,hz2⟩:=info_parts zgn;clear hx HS hws;go_wp2_with (at_builtin;go_must (refine yz (P:=Tryz.prog) rfl (.tmp 152) (.tmp 154) _ rfl w.heap.size 3 i1 _ 1 8 Tryz.underlyingInts hi0 hz0 hz1 hz2 rfl (by omega) _ k _ rfl HS3.out.oth ⟨wr.heap.size,0,none⟩ 1 1 [.int .i64 (k:Int)] rfl rfl (by omega) hcell hone hnoi hzn ?o4 ?o5 ?o6 ?_))
       case o4=>unfold maxLen;omega
       case o5=>omega
       case o6=>exact HWS.out
       intro ov3 w6 hown hgr hat;obtain ⟨go3,capo,eov,_,_⟩:=hown.1.form (by omega);subst eov;rw [show [Value.int .i64 (k:Int)]=[.int .i64 (zpb names.length rows.length k:Nat)] by unfold zpb;rw [if_pos hkl],Y5] at hown;have hoth:=HS3.out.other hown hgr (by rw [World.size_alloc];exact hat);have c9:w6.cell? ⟨gt,8,none⟩=some ov:=by rw [hoth.blk.cell];rfl
       have f9:=hoth.blk.frozen 8;have HS7:=ze (hoth.store 8 (xG hown));rw [show (xo b (.slice rA rows.length c) (.slice nA names.length nc) (.slice (some ⟨gm3,0,none⟩) (rows.length+1) cap3) bv ov).setIfInBounds 8 (.slice (some ⟨go3,0,none⟩) (k+1) capo)=xo b (.slice rA rows.length c) (.slice nA names.length nc) (.slice (some ⟨gm3,0,none⟩) (rows.length+1) cap3) bv (.slice (some ⟨go3,0,none⟩) (k+1) capo) from rfl] at HS7;clear hown hgr hat hoth HS3 HWS hcell hone hnoi hzn c8;go_wp2_with fail;go_roundw
       case rel=>exact ⟨k+1,_,_,by omega,by go_num,HS7⟩
       case measure=>simp [intOf];omega
     . obtain rfl:2*names.length=k:=by omega
       have c8:wr.cell? ⟨gt,8,none⟩=some ov:=by rw [HS.out.blk.cell];rfl
       have c1:wr.cell? ⟨gt,1,none⟩=some (.slice rA rows.length c):=by rw [HS.out.blk.cell];rfl
       have c2:wr.cell? ⟨gt,2,none⟩=some (.slice nA names.length nc):=by rw [HS.out.blk.cell];rfl
       have hg8:¬ ov.ownBlock=some gt:=fun e=>by
        obtain ⟨cs,k1⟩:=HS.out.oth.heap e;exact xM HS.out.blk k1 (by decide) rfl
       obtain ⟨B9,hB9⟩:∃ B9,B9=2*names.length+rows.length:=⟨_,rfl⟩;have hrm:=fun w' (h1:w'.cell? ⟨gt,1,none⟩=some (.slice rA rows.length c)) (h2:w'.cell? ⟨gt,2,none⟩=some (.slice nA names.length nc))=>zgv gt rows.length names.length c nc rA nA w' h1 h2 (by omega) (by omega)
       rw [<- hB9] at hrm;have HRM:=ze hrm;have HB9:=ze hB9;clear hrm hB9
       go_upto_region 30 with fail
       refine zr (S:=fun w' =>Hid (Chg (fun x=>ov.ownBlock=some x) wr w')/\w'.cell? ⟨gt,8,none⟩=some ov/\w'.cell? ⟨gt,1,none⟩=some (.slice rA rows.length c)/\w'.cell? ⟨gt,2,none⟩=some (.slice nA names.length nc)) 6 5 11 rfl (by kernel_rfl) (by kernel_rfl) (by kernel_rfl) rfl (zm (vT wr) (fun hB=>⟨zH hB c8 hg8,zH hB c1 hg8,zH hB c2 hg8⟩)) ?_ (fun hHeld=>?_)
       . intro _ _ _ _ _ h9;exact h9
       simp only [List.take_succ_cons,List.take_zero]
       iterate 6 refine zW ?_
       refine zM ?_;refine HH.rd 6 (fun K hK=>?_)
       go_simp
       go_at_call 139;refine (HRM.out _ hHeld.2.2.1 hHeld.2.2.2).mono ?_;rintro e w5 ⟨rfl,hb2⟩;replace HS:=ze (HS.out.below (ext (zv wr).out hb2));have hH0:=hHeld;clear hHeld;refine hK.out _ _ (zm (vP hb2 hH0.1) (fun hB=>⟨zH hB c8 hg8,zH hB c1 hg8,zH hB c2 hg8⟩)) (fun hHeld=>?_);clear hH0 hK K
       try simp only [Act.put,List.setIfInBounds_toArray,List.set_cons_zero,List.set_cons_succ]
       clear hb2 HRM;refine HH.rd 7 (fun K hK=>?_)
       go_simp
       have hx:=zf w5 (.cells #[.int .i64 (B9:Int)] 3);have HS3:=ze (HS.out.below hx);have hH0:=hHeld;clear hHeld;refine hK.out _ _ (zm (vP hx hH0.1) (fun hB=>⟨zH hB c8 hg8,zH hB c1 hg8,zH hB c2 hg8⟩)) (fun hHeld=>?_);clear hH0 hK K
       try simp only [Act.put,List.setIfInBounds_toArray,List.set_cons_zero,List.set_cons_succ]
       clear hx HS;have hws:=HS3.out.chg.size;have hcell:=YN (w:=w5) (t:=3) (v:=.int .i64 (B9:Int));have hone:=vG (v:=.int .i64 (B9:Int)) (p:=fun u=>u.oneCell' =true) rfl;have hnoi:=vG (v:=.int .i64 (B9:Int)) (p:=ZO) (xC _);have hzn:∀ u∈(Value.int .i64 0).cells,ZO u:=by intro u hu;simp [Value.cells] at hu;subst hu;exact xC _
       obtain ⟨i1,hi0,hz0,hz1,hz2⟩:=info_parts zgn;refine HH.ready (rs:=[8]) (by kernel_rfl) (by simp) (by kernel_rfl) ?_;refine yO.cons (o:=_) rfl (fun K hK=>?_) yO.nil;rw [if_pos (by rfl)];refine vj (P:=Tryz.prog) (.tmp 163) (.tmp 166) _ rfl w.heap.size 3 i1 _ 1 8 Tryz.underlyingInts hi0 hz0 hz1 hz2 rfl (by omega) _ (2*names.length) _ rfl HS3.out.oth ⟨w5.heap.size,0,none⟩ 1 1 [.int .i64 (B9:Int)] rfl rfl (by omega) hcell hone hnoi hzn (by unfold maxLen;omega) (by omega) hws ?_;intro ov3 w6 hown hgr hat;obtain ⟨go3,capo,eov,_,_⟩:=hown.1.form (by omega);subst eov;rw [show [Value.int .i64 (B9:Int)]=[.int .i64 (zpb names.length rows.length (2*names.length):Nat)] by unfold zpb;rw [if_neg (by omega),HB9.out],Y5] at hown;have hoth:=HS3.out.other hown hgr (by rw [World.size_alloc];first | exact hat | (simp at hat |-;exact hat));have c9:w6.cell? ⟨gt,8,none⟩=some ov:=by rw [hoth.blk.cell];rfl
       have f9:=hoth.blk.frozen 8;have HS7:=ze (hoth.store 8 (xG hown));rw [show (xo b (.slice rA rows.length c) (.slice nA names.length nc) (.slice (some ⟨gm3,0,none⟩) (rows.length+1) cap3) bv ov).setIfInBounds 8 (.slice (some ⟨go3,0,none⟩) (2*names.length+1) capo)=xo b (.slice rA rows.length c) (.slice nA names.length nc) (.slice (some ⟨gm3,0,none⟩) (rows.length+1) cap3) bv (.slice (some ⟨go3,0,none⟩) (2*names.length+1) capo) from rfl] at HS7;have hH0:=hHeld;clear hHeld;refine hK.out _ _ (zm (Z7 (vH hgr) hH0.1) (fun hB=>⟨zH hB c8 hg8,zH hB c1 hg8,zH hB c2 hg8⟩)) (fun hHeld=>?_);clear hH0 hK K
       try simp only [Act.put,List.setIfInBounds_toArray,List.set_cons_zero,List.set_cons_succ]
       clear hown hgr hat hoth HS3 hcell hone hnoi hzn hws c8 hg8 c1 c2;refine HH.tk 9 ?_;refine HH.tk 10 ?_;have HBY:=(hHeld.1).out;clear HBY hHeld;refine HH.done (by kernel_rfl) ?_;simp only [List.drop_succ_cons,List.drop_zero];go_wp2_with fail;go_ret2;have HS:=HS7.out;refine ⟨⟨gt,some b,rA,c,nA,names.length,nc,gm3,cap3,g2,bv,.slice (some ⟨go3,0,none⟩) (2*names.length+1) capo⟩,gs,cs,rfl,⟨rfl,rfl,rfl,rfl,rfl,rfl,⟨⟨1,none,0,0,false,HS.blk,.inl ⟨1,false,rfl,by omega,by omega,rfl⟩⟩,HS.mat,HS.bas,?_,HS.one,HS.lo,rfl⟩,?_,HS.book,HS.chg,(fun i hi e=>HS.sne i (by omega) (by rw [show g2 i=gs from e];rfl)),HS.scl.heap rfl⟩⟩
       . show vJ _ _ _ _ _ (2*names.length+2 - 1) (yP (2*names.length+2 - 1) _)
         rw [show 2*names.length+2 - 1=2*names.length+1 by omega];exact HS.oth
       . obtain ⟨A',cap',e1,e2,e3,e4⟩:=HS.scl.nums
         obtain ⟨g9,e5,e6,e7⟩:=e4 hm0;injection e1 with e8 e9 e10
         rw [e5] at e8;injection e8 with e8
         injection e8 with e8
         subst e8;exact ⟨e6,e7⟩
def FeaR (w0:World) (base m L:Nat) (F:zS) (T:yy) (lv iv:Value) (wr:World):Prop:=
 ∃ i:Nat,i<=m/\iv= .int .i64 (i:Nat)/\lv= .int .i64 (-1)/\Hid (yb base m L F wr T)/\Hid (Below w0.heap.size w0 wr)
def zrt (base m L:Nat) (F:zS) (T:yy) (w:World) (e:Ending) (w' :World):Prop:=e= .returned (.bool true)/\yb base m L F w' T/\Below w.heap.size w w'
theorem zbk (base m L:Nat) (F:zS) (T:yy) (w:World) (hT:yb base m L F w T) (hp:∀ i,i<m->0<=T.cell i 0) (hm:m<=100000) (hL:L<=100000):
 Calls Tryz.prog 135 #[.pointer (some ⟨F.gt,0,none⟩)] w (zrt base m L F T w):=by
 have t1:=hT.cell1
 have HP:=ze hp
 have HL1:=ze (show 0<L by have:=hT.lt2;omega)
 have hL1:=HL1.out
 have HT:=ze hT
 have HW:=ze (xw w)
 clear hT hp
 go_enter Tryz.func135,Tryz.ntmps135
 go_wp2_with fail
 go_loopw [3,13] (FeaR w base m L F T) (fun _ iv _=>m - (intOf iv).toNat)
 case atStart=>exact ⟨0,Nat.zero_le _,rfl,rfl,HT,HW⟩
 case round=>
  clear HT HW t1
  obtain ⟨i,hi,rfl,rfl,HT,HW⟩:=hrel
  by_cases hil:i<m
  . have hii:(i:Int)<(m:Int):=by omega
    have hi1:(i:Int)<(m:Int)+1:=by omega
    have t3:=HT.out.cell3;have t4:=HT.out.mat.cell (i:=i) (by omega);obtain ⟨ax,aA,an,ac,ag,a0,a1,a2,ha⟩:=HT.out.mat.at_ (i:=i) (k:=0) (by omega) HL1.out;simp only [Nat.zero_mul,Nat.zero_add] at a0 a1 a2;have tL:=HT.out.lt;have mL:=HT.out.mat.lt.2;have aL:=(HT.out.mat.rows i (by omega)).2.lt;obtain ⟨sg,hsg⟩:∃ sg:Int,zK (T.cell i 0) 0=sg:=⟨_,rfl⟩;have hcp:=zcl (z:=T.cell i 0);have hsi:=fun w' (h:zR w' (.agg #[.int .i64 ax,.slice aA an ac,.bool ag]) (T.cell i 0))=>Yr _ _ w' h
    rw [hsg] at hcp hsi;have d1:decide (sg<0)=false:=decide_eq_false (fun h=>by have:=hcp.2 (HP.out i hil);omega);have HA:=ze ha;have HSI:=ze hsi;clear ha hsg hcp hsi
    go_upto_region 5 with fail
    refine zr (S:=fun w' =>Hid (Below wr.heap.size wr w')/\w'.cell? ⟨F.gt,3,none⟩=some (.slice (some ⟨F.gm,0,none⟩) (m+1) F.cm)/\w'.cell? ⟨F.gm,i,none⟩=some (.slice (some ⟨F.g i,0,none⟩) L L)/\w'.cell? ⟨F.g i,0,none⟩=some (.int .i64 ax)/\w'.cell? ⟨F.g i,1,none⟩=some (.slice aA an ac)/\w'.cell? ⟨F.g i,2,none⟩=some (.bool ag)) 9 27 36 rfl (by kernel_rfl) (by kernel_rfl) (by kernel_rfl) rfl (zm (zv wr) (fun hB=>⟨zh hB tL t3,zh hB mL t4,zh hB aL a0,zh hB aL a1,zh hB aL a2⟩)) ?_ (fun hHeld=>?_)
    . intro _ _ _ _ _ h9;exact h9
    simp only [List.take_succ_cons,List.take_zero]
    iterate 9 refine zW ?_
    refine zM ?_;refine HH.rd 9 (fun K hK=>?_)
    go_simp
    go_at_call 108;refine (HSI.out _ (HA.out.below hHeld.1.out)).mono ?_;rintro e w1 ⟨rfl,hb1⟩;have hH0:=hHeld;clear hHeld;refine hK.out _ _ (zm (zt hb1 hH0.1) (fun hB=>⟨zh hB tL t3,zh hB mL t4,zh hB aL a0,zh hB aL a1,zh hB aL a2⟩)) (fun hHeld=>?_);clear hH0 hK K
    try simp only [Act.put,List.setIfInBounds_toArray,List.set_cons_zero,List.set_cons_succ]
    clear hb1;refine HH.tk 10 ?_;refine HH.tk 11 ?_;refine HH.sk 12 ?_;refine HH.sk 13 ?_;refine HH.sk 14 ?_;refine HH.sk 15 ?_;refine HH.sk 16 ?_;refine HH.sk 17 ?_;refine HH.sk 18 ?_;refine HH.sk 19 ?_;refine HH.sk 20 ?_;refine HH.sk 21 ?_;refine HH.sk 22 ?_;refine HH.sk 23 ?_;refine HH.sk 24 ?_;refine HH.sk 25 ?_;refine HH.sk 26 ?_;refine HH.sk 27 ?_;refine HH.sk 28 ?_;refine HH.sk 29 ?_;refine HH.sk 30 ?_;refine HH.sk 31 ?_;refine HH.sk 32 ?_;refine HH.sk 33 ?_;refine HH.sk 34 ?_;refine HH.sk 35 ?_;have HBY:=(hHeld.1).out;replace HT:=ze (yb.below HT.out HBY);replace HW:=eb_ HW HBY;clear HBY hHeld;refine HH.done (by kernel_rfl) ?_;simp only [List.drop_succ_cons,List.drop_zero];clear t3 t4 a0 a1 a2 tL mL aL HA HSI;go_wp2_with fail;go_roundw
    case rel=>exact ⟨i+1,by omega,by go_num,rfl,HT,HW⟩
    case measure=>simp [intOf];omega
  . obtain rfl:m=i:=by omega
    go_wp2_with fail;go_ret;exact ⟨by go_num,HT.out,HW.out⟩
def zgf (g nn:Nat) (f:Nat->Rat) (w:World) (e:Ending) (w' :World):Prop:=e= .returned (.tuple #[])/\xa w' g nn nn f/\Chg (· =g) w w'
theorem zl2 (base m L:Nat) (F:zS) (T:yy) (bT bO g u:Nat) (f:Nat->Rat) (vx:Value) (q:Rat) (w:World) (hT:yb base m L F w T) (hb:w.cell? ⟨bT,0,none⟩=some (.pointer (some ⟨F.gt,0,none⟩))) (hr:xa w g F.nn F.nn f) (hx:yC w vx q)
 (hu:2*F.nn<=u) (hu2:u<=1000000):
 Calls Tryz.prog 191 #[.int .i64 (u:Nat),vx,.pointer (some ⟨bT,0,none⟩),.pointer (some ⟨bO,0,none⟩)] w (zgf g F.nn f w):=by
 obtain ⟨x1,A1,k1,c1,s1,y1,B1,k1x,c1x,t1,rfl,hx1,hx2⟩:=hx
 have hxx:=zf w (.cells #[.int .i64 x1,.slice A1 k1 c1,.bool s1,.int .i64 y1,.slice B1 k1x c1x,.bool t1] 93)
 have HR:=ze (hr.below hxx)
 have HC:Hid (Chg (· =g) w (w.alloc (.cells #[.int .i64 x1,.slice A1 k1 c1,.bool s1,.int .i64 y1,.slice B1 k1x c1x,.bool t1] 93))):=Chg.of_below hxx
 have c2:=(hT.below hxx).cell2
 have hb' :=(hxx.cell (p:=⟨bT,0,none⟩) (World.block_lt_of_cell? w _ hb)).trans hb
 have h2n:IntKind.i64.wrap (2*(F.nn:Int))=2*(F.nn:Int):=by rw [IntKind.wrap_i64];omega
 have d1:decide ((u:Int) ≥ 2*(F.nn:Int))=true:=by rw [decide_eq_true_iff];omega
 clear hxx hr hT hx1 hx2 hb
 go_enter Tryz.func191,Tryz.ntmps191
 go_upto_region 1 with fail
 generalize w.alloc (.cells #[.int .i64 x1,.slice A1 k1 c1,.bool s1,.int .i64 y1,.slice B1 k1x c1x,.bool t1] 93)=W at HR HC c2 hb' |-
 go_wp2_with fail
 go_end0
 exact ⟨rfl,HR.out,HC.out⟩
theorem zmk (base m L:Nat) (F:zS) (T:yy) (bT bO g k u:Nat) (f:Nat->Rat) (vx:Value) (q:Rat) (w:World) (hT:yb base m L F w T) (hb:w.cell? ⟨bT,0,none⟩=some (.pointer (some ⟨F.gt,0,none⟩))) (ho:w.cell? ⟨bO,0,none⟩=some (.slice (some ⟨g,0,none⟩) F.nn F.nn))
 (hr:xa w g F.nn F.nn f) (hx:yC w vx q) (hu:u=2*k) (hk:k<F.nn) (hnn:F.nn<=100000) (hl1:ZW 8388608 (f k)) (hl2:ZW 8388608 q):
 Calls Tryz.prog 191 #[.int .i64 (u:Nat),vx,.pointer (some ⟨bT,0,none⟩),.pointer (some ⟨bO,0,none⟩)] w (zgf g F.nn (fun j=>if j=k then f j+q else f j) w):=by
 obtain ⟨x1,A1,k1,c1,s1,y1,B1,k1x,c1x,t1,rfl,hx1,hx2⟩:=hx
 have hxx:=zf w (.cells #[.int .i64 x1,.slice A1 k1 c1,.bool s1,.int .i64 y1,.slice B1 k1x c1x,.bool t1] 93)
 have HR:=ze (hr.below hxx)
 have HC:Hid (Chg (· =g) w (w.alloc (.cells #[.int .i64 x1,.slice A1 k1 c1,.bool s1,.int .i64 y1,.slice B1 k1x c1x,.bool t1] 93))):=Chg.of_below hxx
 have c2:=(hT.below hxx).cell2
 have hb' :=(hxx.cell (p:=⟨bT,0,none⟩) (World.block_lt_of_cell? w _ hb)).trans hb
 have ho' :=(hxx.cell (p:=⟨bO,0,none⟩) (World.block_lt_of_cell? w _ ho)).trans ho
 have HKX:=ze (Blk.new w 93 #[.int .i64 x1,.slice A1 k1 c1,.bool s1,.int .i64 y1,.slice B1 k1x c1x,.bool t1])
 have HX:Hid (yC (w.alloc (.cells #[.int .i64 x1,.slice A1 k1 c1,.bool s1,.int .i64 y1,.slice B1 k1x c1x,.bool t1] 93)) (.agg #[.int .i64 x1,.slice A1 k1 c1,.bool s1,.int .i64 y1,.slice B1 k1x c1x,.bool t1]) q):=yC.below ⟨_,_,_,_,_,_,_,_,_,_,rfl,hx1,hx2⟩ hxx
 have h2n:IntKind.i64.wrap (2*(F.nn:Int))=2*(F.nn:Int):=by rw [IntKind.wrap_i64];omega
 have d1:decide ((u:Int) ≥ 2*(F.nn:Int))=false:=by rw [decide_eq_false_iff_not];omega
 have e1:((u:Int).tmod 2)=0:=by rw [Int.tmod_eq_emod_of_nonneg (by omega)];omega
 have e2:((u:Int).tdiv 2)=(k:Int):=by rw [Int.tdiv_eq_ediv_of_nonneg (by omega)];omega
 have e3:(u:Int) % 2=0:=by omega
 have e4:(u:Int) / 2=(k:Int):=by omega
 have hki:(k:Int)<(F.nn:Int):=by omega
 have e5:IntKind.i64.wrap (k:Int)=(k:Int):=by rw [IntKind.wrap_i64];omega
 have e6:(0:Int)<=(k:Int):=by omega
 have HL1:=ze hl1
 have HL2:=ze hl2
 have HKL:=ze hk
 clear hxx hr hT hx1 hx2 hb ho hu hl1 hl2
 go_enter Tryz.func191,Tryz.ntmps191
 go_upto_region 1 with fail
 generalize w.alloc (.cells #[.int .i64 x1,.slice A1 k1 c1,.bool s1,.int .i64 y1,.slice B1 k1x c1x,.bool t1] 93)=W at HR HC HKX HX c2 hb' ho' |-
 generalize w.heap.size=gx at HKX |-
 go_upto_region 4 with fail
 clear c2 hb' d1 h2n
 have o0:=ho'
 have oL:=World.block_lt_of_cell? W _ o0
 obtain ⟨ax,aA,an,ac,asg,ay,aB,an',ac',at',a0,a1,a2,a3,a4,a5,ha⟩:=HR.out.2 k HKL.out
 have aL:=HR.out.lt
 have q0:=HKX.out.cell 0
 have q1:=HKX.out.cell 1
 have q2:=HKX.out.cell 2
 have q3:=HKX.out.cell 3
 have q4:=HKX.out.cell 4
 have q5:=HKX.out.cell 5
 have xL:=HKX.out.lt
 simp at q0 q1 q2 q3 q4 q5
 have HA:=ze ha
 clear ha ho'
 refine zr (S:=fun w' =>Hid (Below W.heap.size W w')/\w'.cell? ⟨bO,0,none⟩=some (.slice (some ⟨g,0,none⟩) F.nn F.nn)/\w'.cell? ⟨g,k*6,none⟩=some (.int .i64 ax)/\w'.cell? ⟨g,k*6+1,none⟩=some (.slice aA an ac)/\w'.cell? ⟨g,k*6+2,none⟩=some (.bool asg)/\w'.cell? ⟨g,k*6+3,none⟩=some (.int .i64 ay)/\w'.cell? ⟨g,k*6+4,none⟩=some (.slice aB an' ac')/\w'.cell? ⟨g,k*6+5,none⟩=some (.bool at')/\w'.cell? ⟨gx,0,none⟩=some (.int .i64 x1)/\w'.cell? ⟨gx,1,none⟩=some (.slice A1 k1 c1)/\w'.cell? ⟨gx,2,none⟩=some (.bool s1)/\w'.cell? ⟨gx,3,none⟩=some (.int .i64 y1)/\w'.cell? ⟨gx,4,none⟩=some (.slice B1 k1x c1x)/\w'.cell? ⟨gx,5,none⟩=some (.bool t1)) 9 2 11 rfl (by kernel_rfl) (by kernel_rfl) (by kernel_rfl) rfl (zm (zv W) (fun hB=>⟨zh hB oL o0,zh hB aL a0,zh hB aL a1,zh hB aL a2,zh hB aL a3,zh hB aL a4,zh hB aL a5,zh hB xL q0,zh hB xL q1,zh hB xL q2,zh hB xL q3,zh hB xL q4,zh hB xL q5⟩)) ?_ (fun hHeld=>?_)
 . intro _ _ _ _ _ h9;exact h9
 simp only [List.take_succ_cons,List.take_zero]
 iterate 9 refine zW ?_
 refine zM ?_
 refine HH.rd 9 (fun K hK=>?_)
 go_simp
 go_at_call 77
 refine (Xz _ _ _ _ _ (HA.out.below hHeld.1.out) (HX.out.below hHeld.1.out) HL1.out HL2.out).mono ?_
 rintro e w2 ⟨v1,rfl,hv,hb2⟩
 have HX1:=ze hv
 clear hv
 have hH0:=hHeld
 clear hHeld
 refine hK.out _ _ (zm (zt hb2 hH0.1) (fun hB=>⟨zh hB oL o0,zh hB aL a0,zh hB aL a1,zh hB aL a2,zh hB aL a3,zh hB aL a4,zh hB aL a5,zh hB xL q0,zh hB xL q1,zh hB xL q2,zh hB xL q3,zh hB xL q4,zh hB xL q5⟩)) (fun hHeld=>?_)
 clear hH0 hK K
 try simp only [Act.put,List.setIfInBounds_toArray,List.set_cons_zero,List.set_cons_succ]
 clear hb2
 refine HH.tk 10 ?_
 have HBY:=(hHeld.1).out
 replace HR:=ze (xa.below HR.out HBY)
 replace HC:=ze (zX HC.out HBY)
 clear HBY hHeld
 refine HH.done (by kernel_rfl) ?_
 simp only [List.drop_succ_cons,List.drop_zero]
 clear HA HX a0 a1 a2 a3 a4 a5 q0 q1 q2 q3 q4 q5 oL aL xL o0 HKX HL1 HL2
 obtain ⟨x,A,n,c,s,y,B,n',c',t,rfl,hv1,hv2⟩:=HX1.out
 obtain ⟨u0,u1,u2,u3,u4,u5,s0,s1,s2,s3,s4,s5⟩:=HR.out.slots HKL.out
 have f0:=HR.out.frozen (k*6)
 have f1:=HR.out.frozen (k*6+1)
 have f2:=HR.out.frozen (k*6+2)
 have f3:=HR.out.frozen (k*6+3)
 have f4:=HR.out.frozen (k*6+4)
 have f5:=HR.out.frozen (k*6+5)
 have hcn:=YK (w:=w2) (g:=g) (k:=k) (x:=x) (s:=s) (A:=A) (n:=n) (c:=c) (y:=y) (t:=t) (B:=B) (n' :=n') (c' :=c')
 have HR2:Hid (xa (World.ratAt w2 g k x A n c s y B n' c' t) g F.nn F.nn (fun j=>if j=k then f j+q else f j)):=HR.out.set HKL.out HX1.out (fun j hj=>by
  by_cases e:j=k
  . exact .inl ⟨e,by subst e;rw [if_pos rfl]⟩
  . exact .inr ⟨e,hj,by rw [if_neg e]⟩)
 have HC2:Hid (Chg (· =g) w (World.ratAt w2 g k x A n c s y B n' c' t)):=HC.out.trans hcn (fun _ _ h=>h)
 clear HR HC HX1 hcn hv1 hv2
 go_wp2_with fail
 go_end0
 exact ⟨rfl,HR2.out,HC2.out⟩
def zcc (T:yy) (nn:Nat):Nat->Nat->Rat
 | 0=>fun _=>0
 | i+1=>fun j=>if T.basic i<2*nn/\j=T.basic i / 2 then zcc T nn i j+Rat.divInt (T.cell i 0) T.den else zcc T nn i j
def VcA (w0:World) (n g bT bO gt:Nat) (iv:Value) (wr:World):Prop:=
 ∃ i:Nat,i<=n/\iv= .int .i64 i/\Hid (xa wr g n i (fun _=>0))/\Hid (Blk wr bT 186 #[.pointer (some ⟨gt,0,none⟩)])/\Hid (Blk wr bO 129 #[.slice (some ⟨g,0,none⟩) n n])/\Hid (Below w0.heap.size w0 wr)
def VcB (w0:World) (m n g bT bO gt:Nat) (T:yy) (iv:Value) (wr:World):Prop:=
 ∃ i:Nat,i<=m/\iv= .int .i64 i/\Hid (xa wr g n n (zcc T n i))/\Hid (Blk wr bT 186 #[.pointer (some ⟨gt,0,none⟩)])/\Hid (Blk wr bO 129 #[.slice (some ⟨g,0,none⟩) n n])/\Hid (Below w0.heap.size w0 wr)
theorem zdu (base m L:Nat) (F:zS) (T:yy) (w:World) (hT:yb base m L F w T) (hf:T.Fits m L) (hm:m<=100000) (hm0:0<m) (hL:L<=100000)
 (hb:∀ i,i<m->(2*F.nn<=T.basic i/\T.basic i<=1000000)\/∃ k,T.basic i=2*k/\k<F.nn) (hl:∀ i j,i<=m->j<F.nn->ZW 8388608 (zcc T F.nn i j)) (hv:∀ i,i<m->ZW 8388608 (Rat.divInt (T.cell i 0) T.den)):
 Calls Tryz.prog 140 #[.pointer (some ⟨F.gt,0,none⟩),.int .i64 0] w (zo9 F.nn (zcc T F.nn m) w):=by
 have hnn:F.nn<=100000:=by have:=hT.cols;omega
 have hmk:=fun w=>zff .i64 F.nn hnn w
 have hx0:=zf w (.cells #[.pointer (some ⟨F.gt,0,none⟩)] 186)
 have HBT:=ze (Blk.new w 186 #[.pointer (some ⟨F.gt,0,none⟩)])
 have HT0:=ze hT
 have HF:=ze hf
 have HB:=ze hb
 have HL:=ze hl
 have HV:=ze hv
 have HW:=ze hx0
 have c2:=(hT.below hx0).cell2
 clear hT hf hb hl hv hx0
 go_enter Tryz.func140,Tryz.ntmps140
 go_upto_region 1 with fail
 generalize w.alloc (.cells #[.pointer (some ⟨F.gt,0,none⟩)] 186)=W1 at HBT HW c2 |-
 have HBL:Hid (w.heap.size<=w.heap.size):=Nat.le_refl _
 generalize hbT:w.heap.size=bT at HBT |-
 have HBTL:Hid (w.heap.size<=bT):=Nat.le_of_eq hbT
 clear hbT HBL
 have b0:=HBT.out.cell 0
 simp at b0
 go_upto_region 2 with fail
 have hx:=ext (zf W1 (.cells (xY F.nn) 93)) (zf _ (.cells #[.slice (some ⟨W1.heap.size,0,none⟩) F.nn F.nn] 129))
 have hr0:=(zhj W1 F.nn (fun _=>0)).below (zf _ (.cells #[.slice (some ⟨W1.heap.size,0,none⟩) F.nn F.nn] 129))
 have hbo:=Blk.new (W1.alloc (.cells (xY F.nn) 93)) 129 #[.slice (some ⟨W1.heap.size,0,none⟩) F.nn F.nn]
 simp only [World.size_alloc] at hbo
 have HR:=ze hr0
 have HBO:=ze hbo
 replace HBT:=kb_ HBT hx
 have HG:Hid (w.heap.size<=W1.heap.size):=HW.out.size
 replace HW:=eb_ HW hx
 clear hx hr0 hbo hmk c2 b0
 generalize (W1.alloc (.cells (xY F.nn) 93)).alloc (.cells #[.slice (some ⟨W1.heap.size,0,none⟩) F.nn F.nn] 129)=W3 at HR HBO HBT HW |-
 obtain ⟨bO,hbO⟩:∃ bO,bO=W1.heap.size+1:=⟨_,rfl⟩
 rw [<- hbO] at HBO |-
 have HGO:Hid (W1.heap.size≠bO):=by show _≠_;omega
 clear hbO
 generalize W1.heap.size=g at HR HBO HG HGO |-
 have o0:=HBO.out.cell 0
 simp at o0
 go_wp2_with fail
 clear o0
 go_loopw [18] (VcA w F.nn g bT bO F.gt) (fun iv _=>F.nn - (intOf iv).toNat)
 case atStart=>exact ⟨0,Nat.zero_le _,rfl,HR,HBT,HBO,HW⟩
 case round=>
  clear HR HBT HBO HW
  obtain ⟨i,hi,rfl,HR,HBT,HBO,HW⟩:=hrel
  by_cases hil:i<F.nn
  . have hii:(i:Int)<(F.nn:Int):=by omega
    have o0:=HBO.out.cell 0;simp at o0;have oL:=HBO.out.lt
    go_upto_region 5 with fail
    refine zr (S:=fun w' =>Hid (Below wr.heap.size wr w')/\w'.cell? ⟨bO,0,none⟩=some (.slice (some ⟨g,0,none⟩) F.nn F.nn)) 2 2 4 rfl (by kernel_rfl) (by kernel_rfl) (by kernel_rfl) rfl (zm (zv wr) (fun hB=>zh hB oL o0)) ?_ (fun hHeld=>?_)
    . intro _ _ _ _ _ h9;exact h9
    simp only [List.take_succ_cons,List.take_zero]
    iterate 2 refine zW ?_
    refine zM ?_;refine HH.rd 2 (fun K hK=>?_)
    go_simp
    go_at_call 92;refine (XZ 0 _ (by omega) (by omega)).mono ?_;rintro e w1 ⟨v,rfl,hvv,hb1⟩;have HX:=ze hvv;clear hvv;have hH0:=hHeld;clear hHeld;refine hK.out _ _ (zm (zt hb1 hH0.1) (fun hB=>zh hB oL o0)) (fun hHeld=>?_);clear hH0 hK K
    try simp only [Act.put,List.setIfInBounds_toArray,List.set_cons_zero,List.set_cons_succ]
    clear hb1;refine HH.tk 3 ?_;clear o0 oL;have HBY:=(hHeld.1).out
    try clear t0 tL o0 oL
    replace HR:=ze (xa.below HR.out HBY);replace HBT:=kb_ HBT HBY;replace HBO:=kb_ HBO HBY;replace HW:=eb_ HW HBY;clear HBY hHeld;refine HH.done (by kernel_rfl) ?_;simp only [List.drop_succ_cons,List.drop_zero];obtain ⟨t0,tL⟩:=zsv HBT.out;obtain ⟨o0,oL⟩:=zsv HBO.out;clear t0 tL o0 oL;obtain ⟨x,A,k,c,s,y,B,k',c',t,rfl,hv1,hv2⟩:=HX.out;obtain ⟨u0,u1,u2,u3,u4,u5,s0,s1,s2,s3,s4,s5⟩:=HR.out.slots hil;have f0:=HR.out.frozen (i*6);have f1:=HR.out.frozen (i*6+1);have f2:=HR.out.frozen (i*6+2);have f3:=HR.out.frozen (i*6+3);have f4:=HR.out.frozen (i*6+4);have f5:=HR.out.frozen (i*6+5);have hcn:=YK (w:=w1) (g:=g) (k:=i) (x:=x) (s:=s) (A:=A) (n:=k) (c:=c) (y:=y) (t:=t) (B:=B) (n' :=k') (c' :=c')
    have HR2:Hid (xa (World.ratAt w1 g i x A k c s y B k' c' t) g F.nn (i+1) (fun _=>0)):=HR.out.set hil HX.out (fun j hj=>by
     by_cases e:j=i
     . exact .inl ⟨e,rfl⟩
     . exact .inr ⟨e,by omega,rfl⟩)
    have hnt:∀ t cs,Blk w1 bT t cs->t≠93->¬ bT=g:=fun t cs h hne e=>by
     subst e;obtain ⟨cs',k1⟩:=HR.out.heap;exact xM h k1 hne rfl
    have HBT2:=ze (hcn.blk HBT.out (hnt _ _ HBT.out (by decide)));have HBO2:=ze (hcn.blk HBO.out (by have:=HGO.out;omega));have HW2:=ze (XN HW.out hcn HG.out);clear HR HBT HBO HW hcn hv1 hv2 HX hnt;go_wp2_with fail;go_roundw
    case rel=>first | exact ⟨i+1,by omega,by go_num,HR2,HBT2,HBO2,HW2⟩ | ((repeat apply Exists.intro);exact ⟨⟨i+1,by omega,by go_num,HR2,HBT2,HBO2,HW2⟩,rfl⟩)
    case measure=>simp [intOf];omega
  . obtain rfl:F.nn=i:=by omega
    skip
    have b0:=HBT.out.cell 0;simp at b0;obtain ⟨gb,cb,ebv,hgb,hbc⟩:=HT0.out.basics hm0;have t7:=(HT0.out.below HW.out).cell7;rw [ebv] at t7;have HBC:=ze (fun wr (h:Below w.heap.size w wr) i (hi:i<m)=>(h.cell (p:=⟨gb,i,none⟩) hgb).trans (hbc i hi));clear hgb hbc;go_wp2_with fail;clear b0 t7
    go_loopw [32] (VcB w m F.nn g bT bO F.gt T) (fun iv _=>m - (intOf iv).toNat)
    case atStart=>exact ⟨0,Nat.zero_le _,rfl,HR,HBT,HBO,HW⟩
    case round=>
     clear HR HBT HBO HW;obtain ⟨i,hi,rfl,HR,HBT,HBO,HW⟩:=hrel
     by_cases him:i<m
     . have hii:(i:Int)<(m:Int):=by omega
       have hi1:(i:Int)<(m:Int)+1:=by omega
       have HT:=ze (HT0.out.below HW.out);have p1:=HBC.out _ HW.out i him;have h2:=HT0.out.lt2;have t0:=HBT.out.cell 0;simp at t0;have t3:=HT.out.cell3;have t4:=HT.out.mat.cell (i:=i) (by omega);obtain ⟨ax,aA,an,ac,ag,a0,a1,a2,ha⟩:=HT.out.mat.at_ (i:=i) (k:=0) (by omega) (by omega);simp only [Nat.zero_mul,Nat.zero_add] at a0 a1 a2;have hL0:0<L:=by omega
       have bL:=HBT.out.lt;have tL:=HT.out.lt;have mL:=HT.out.mat.lt.2;have aL:=(HT.out.mat.rows i (by omega)).2.lt;have HA:=ze ha;have HFC:=ze (HF.out.cell i 0 (by omega) (by omega));have HD0:Hid (T.den≠0):=by have:=HF.out.den;show _≠_;omega
       clear ha
       go_upto_region 11 with fail
       clear p1;have HBT1:=HBT;clear HBT;refine zr (S:=fun w' =>Hid (Below wr.heap.size wr w')/\w'.cell? ⟨bT,0,none⟩=some (.pointer (some ⟨F.gt,0,none⟩))/\w'.cell? ⟨F.gt,3,none⟩=some (.slice (some ⟨F.gm,0,none⟩) (m+1) F.cm)/\w'.cell? ⟨F.gm,i,none⟩=some (.slice (some ⟨F.g i,0,none⟩) L L)/\w'.cell? ⟨F.g i,0,none⟩=some (.int .i64 ax)/\w'.cell? ⟨F.g i,1,none⟩=some (.slice aA an ac)/\w'.cell? ⟨F.g i,2,none⟩=some (.bool ag)) 13 1 14 rfl (by kernel_rfl) (by kernel_rfl) (by kernel_rfl) rfl (zm (zv wr) (fun hB=>⟨zh hB bL t0,zh hB tL t3,zh hB mL t4,zh hB aL a0,zh hB aL a1,zh hB aL a2⟩)) ?_ (fun hHeld=>?_)
       . intro _ _ _ _ _ h9;exact h9
       simp only [List.take_succ_cons,List.take_zero]
       iterate 13 refine zW ?_
       refine zM ?_;refine HH.rd 13 (fun K hK=>?_)
       go_simp
       go_at_call 192;refine (zgg base m L F T _ _ _ (HT.out.below hHeld.1.out) (HA.out.below hHeld.1.out) (HFC.out.le2 (by omega)) HF.out.fden HD0.out).mono ?_;rintro e w1 ⟨v,rfl,hvv,hb1⟩;have HX:=ze hvv;clear hvv;have HBT:=ze (HBT1.out.below (ext hHeld.1.out hb1) HBT1.out.lt);have hH0:=hHeld;clear hHeld;refine hK.out _ _ (zm (zt hb1 hH0.1) (fun hB=>⟨zh hB bL t0,zh hB tL t3,zh hB mL t4,zh hB aL a0,zh hB aL a1,zh hB aL a2⟩)) (fun hHeld=>?_);clear hH0 hK K
       try simp only [Act.put,List.setIfInBounds_toArray,List.set_cons_zero,List.set_cons_succ]
       clear hb1;have HBY:=(hHeld.1).out
       try clear o0 oL
       replace HR:=ze (xa.below HR.out HBY);replace HBO:=kb_ HBO HBY;replace HW:=eb_ HW HBY;replace HT:=ze (yb.below HT.out HBY);clear HBY hHeld;refine HH.done (by kernel_rfl) ?_;simp only [List.drop_succ_cons,List.drop_zero];obtain ⟨o0,oL⟩:=zsv HBO.out;clear hL0 t0 t3 t4 a0 a1 a2 bL tL mL aL HA HFC HD0 h2 oL o0;have hput:=HB.out i him;have hb0:=HBT.out.cell 0;have ho0:=HBO.out.cell 0;simp at hb0 ho0
       have hpc:Calls Tryz.prog 191 #[.int .i64 (T.basic i:Nat),v,.pointer (some ⟨bT,0,none⟩),.pointer (some ⟨bO,0,none⟩)] w1 (zgf g F.nn (zcc T F.nn (i+1)) w1):=by
        rcases hput with ⟨h1,h2⟩ | ⟨k,h1,h2⟩
        . have e:zcc T F.nn (i+1)=zcc T F.nn i:=by
           funext j
           show (if T.basic i<2*F.nn/\j=T.basic i / 2 then _ else _)=_
           rw [if_neg (by omega)]
          rw [e];exact zl2 base m L F T bT bO g (T.basic i) _ v _ w1 HT.out hb0 HR.out HX.out h1 h2
        . have e:zcc T F.nn (i+1)=fun j=>if j=k then zcc T F.nn i j+Rat.divInt (T.cell i 0) T.den else zcc T F.nn i j:=by
           funext j
           show (if T.basic i<2*F.nn/\j=T.basic i / 2 then _ else _)=_
           by_cases ej:j=k
           . rw [if_pos (by omega),if_pos ej]
           . rw [if_neg (by omega),if_neg ej]
          rw [e];exact zmk base m L F T bT bO g k (T.basic i) _ v _ w1 HT.out hb0 ho0 HR.out HX.out h1 h2 hnn (HL.out i k (by omega) h2) (HV.out i him)
       have HPC:=ze hpc;clear hput hb0 ho0 hpc HX
       have hnt:∀ t cs,Blk w1 bT t cs->t≠93->¬ bT=g:=fun t cs h hne e=>by
        subst e;obtain ⟨cs',k1⟩:=HR.out.heap;exact xM h k1 hne rfl
       have HNT:=ze (hnt _ _ HBT.out (by decide));clear hnt HR HT;go_wp2_with fail;refine HPC.out.mono ?_;rintro e w2 ⟨rfl,hr2,hc2⟩;have HR:=ze hr2;replace HBT:=ze (hc2.blk HBT.out HNT.out);replace HBO:=ze (hc2.blk HBO.out (by have:=HGO.out;omega));replace HW:=ze (XN HW.out hc2 HG.out);clear hr2 hc2 HPC HNT;go_wp2_with fail;go_roundw
       case rel=>first | exact ⟨i+1,by omega,by go_num,HR,HBT,HBO,HW⟩ | ((repeat apply Exists.intro);exact ⟨⟨i+1,by omega,by go_num,HR,HBT,HBO,HW⟩,rfl⟩)
       case measure=>simp [intOf];omega
     . obtain rfl:m=i:=by omega
       have o0:=HBO.out.cell 0;simp at o0;go_wp2_with fail;go_ret;exact ⟨g,rfl,HR.out,HW.out⟩
end Go.Proofs.YtkmcmmcencdcpaaGreatDoor
