/- Parts of the proof. -/
import Derived.Deep.CutRange
import Derived.Test.YthbmhkiphmcogaaGreatDoorMe17
set_option linter.all false
set_option maxRecDepth 100000
set_option maxHeartbeats 32000000
namespace Go.Proofs.YthbmhkiphmcogaaGreatDoor
open Proofs.Tryz Go.RowKit Go.Deep
attribute [local go_sem ↓] Go.wp_at_zero Go.wp_at_succ
theorem Fit.le2 {z:Int} (h:Fit z) {M:Nat} (hM:8388608<=M):len 4294967296 z.natAbs<=M:=Nat.le_trans h hM
theorem Fit.neg {z:Int} (h:Fit z):Fit (-z):=by unfold Fit;rw [Int.natAbs_neg];exact h
theorem XG {a b:Int} (ha:Fit a) (hb:Fit b) {M:Nat} (hM:16777216<=M):len 4294967296 (a*b).natAbs<=M:=Nat.le_trans (Ys (M:=8388608) (K:=8388608) ha hb) hM
theorem zcw (x y:Int):(x<y/\zP x y= -1)\/(x=y/\zP x y=0)\/(y<x/\zP x y=1):=by
 unfold zP
 rcases Int.lt_trichotomy x y with h | h | h
 . exact .inl ⟨h,by rw [if_pos h]⟩
 . exact .inr (.inl ⟨h,by rw [if_neg (by omega),if_neg (by omega)]⟩)
 . exact .inr (.inr ⟨h,by rw [if_neg (by omega),if_pos h]⟩)
theorem ze4 {z:Int}:(zP z 0 ≥ 0)↔0<=z:=by
 rcases zcw z 0 with h | h | h<;>omega
def ziz:Option Nat->Int
 | none=> -1
 | some j=>(j:Int)
section
variable {T:yE} {room c n j:Nat}
theorem yE.leave_pos (h:0<=T.cell n c):T.leave room c (n+1)=T.leave room c n:=by
 show (if _ then _ else _)=_
 rw [if_pos h]
theorem yE.leave_none (h:¬ 0<=T.cell n c) (hn:T.leave room c n=none):T.leave room c (n+1)=some n:=by
 show (if _ then _ else match T.leave room c n with | none=>_ | some j=>_)=_
 rw [if_neg h,hn]
theorem yE.leave_yes (h:¬ 0<=T.cell n c) (hn:T.leave room c n=some j) (ha:T.ahead room c n j):T.leave room c (n+1)=some n:=by
 show (if _ then _ else match T.leave room c n with | none=>_ | some j=>_)=_
 rw [if_neg h,hn]
 exact if_pos ha
theorem yE.leave_no (h:¬ 0<=T.cell n c) (hn:T.leave room c n=some j) (ha:¬ T.ahead room c n j):T.leave room c (n+1)=some j:=by
 show (if _ then _ else match T.leave room c n with | none=>_ | some j=>_)=_
 rw [if_neg h,hn]
 exact if_neg ha
end
theorem zex (base m L:Nat) (F:ya) (T:yE) (w:World) (hT:yi base m L F w T) (hm:m<=100000) (hL:L<=100000):
 Calls Tryz.prog 66 #[.pointer (some ⟨F.gt,0,none⟩)] w (zfq w (.int .i64 ((2*F.nn+m:Nat):Int))):=by
 have e:=hT.cell1
 have r:=hT.cell2
 have b:=hT.cols
 have j:IntKind.i64.wrap (2*(F.nn:Int))=2*(F.nn:Int):=by rw [IntKind.wrap_i64];omega
 have l:IntKind.i64.wrap (2*(F.nn:Int)+(m:Int))=2*(F.nn:Int)+(m:Int):=by rw [IntKind.wrap_i64];omega
 clear hT b
 go_enter func66,ntmps66
 go_upto_region 1 with fail
 go_region
 go_wp2_with fail
 go_ret
 exact ⟨by push_cast;rfl,(zu w).out⟩
def LvR (w0:World) (base m L:Nat) (F:ya) (T:yE) (c:Nat) (bv iv:Value) (wr:World):Prop:=
 ∃ i:Nat,i<=m/\iv= .int .i64 (i:Nat)/\bv= .int .i64 (ziz (T.leave (2*F.nn+m) c i))/\Hid (yi base m L F wr T)/\Hid (Below w0.heap.size w0 wr)
theorem zao (base m L:Nat) (F:ya) (T:yE) (c:Nat) (w:World) (hT:yi base m L F w T) (hf:T.Fits m L) (hc:c<L) (hm:m<=100000) (hL:L<=100000):
 Calls Tryz.prog 115 #[.pointer (some ⟨F.gt,0,none⟩),.int .i64 c] w (zfq w (.int .i64 (ziz (T.leave (2*F.nn+m) c m)))):=by
 have t1:=hT.cell1
 have b:=ze hT
 have HF:=ze hf
 have aw:=ze hT.lt2
 have aH:0<L:=by have:=aw.o;omega
 have aB:(c:Int)<(L:Int):=by omega
 have aD:(0:Int)<(L:Int):=by omega
 have aa:=ze (fun w' (h:yi base m L F w' T)=>zex base m L F T w' h hm hL)
 obtain ⟨G,Y⟩:∃ G:Nat,Hid (2*F.nn+m=G):=⟨_,rfl⟩
 rw [Y.o] at aa |-
 have B:=ze (vh w)
 clear hT hf
 go_enter func115,ntmps115
 go_wp2_with fail
 go_loopw [5,15] (LvR w base m L F T c) (fun _ iv _=>m - (intOf iv).toNat)
 case atStart=>exact ⟨0,Nat.zero_le _,rfl,rfl,b,B⟩
 case round=>
  clear b B t1
  obtain ⟨i,hi,rfl,rfl,b,B⟩:=hrel
  rw [Y.o]
  by_cases ay:i<m
  rotate_left
  . obtain rfl:m=i:=by omega
    go_wp2_with fail;go_ret;exact ⟨by go_num,B.o⟩
  have aC:(i:Int)<(m:Int):=by omega
  have aE:(i:Int)<(m:Int)+1:=by omega
  have t3:=b.o.cell3;have t4:=b.o.mat.cell (i:=i) (by omega);obtain ⟨ax,aA,an,ac,ag,a0,X,U,ha⟩:=b.o.mat.at_ (i:=i) (k:=c) (by omega) hc;obtain ⟨sg,ap⟩:∃ sg:Int,zP (T.cell i c) 0=sg:=⟨_,rfl⟩;have af:=ze4 (z:=T.cell i c);have ah:=X4 _ _ wr ha;rw [ap] at af ah;have ab:=ze ah;clear ap ha ah
  by_cases hp:0<=T.cell i c
  . have d1:decide (sg ≥ 0)=true:=decide_eq_true (af.2 hp)
    have N:Hid (T.leave G c (i+1)=T.leave G c i):=T.leave_pos hp;clear af hp;go_wp2_with fail;refine ab.o.mono ?_;rintro e w1 ⟨rfl,V⟩;replace b:=ze (b.o.below V);replace B:=eb_ B V;clear V ab t3 t4 a0 X U;go_wp2_with fail;go_roundw
    case rel=>exact ⟨i+1,by omega,by go_num,by rw [Y.o,N.o],b,B⟩
    case measure=>simp [intOf];omega
  have d1:decide (sg ≥ 0)=false:=decide_eq_false (fun h=>hp (af.1 h))
  have HP:Hid (T.cell i c<0):=Int.not_le.1 hp;clear af hp
  cases hlv:T.leave G c i with
  | none=>
    have N:Hid (T.leave G c (i+1)=some i):=T.leave_none (Int.not_le.2 HP.o) hlv;have d2:decide (ziz none<0)=true:=by decide
    have d3:ziz none= -1:=rfl;clear hlv;go_wp2_with fail;refine ab.o.mono ?_;rintro e w1 ⟨rfl,V⟩;replace b:=ze (b.o.below V);replace B:=eb_ B V;clear V ab t3 t4 a0 X U;go_wp2_with fail;go_roundw
    case rel=>exact ⟨i+1,by omega,by go_num,(by rw [Y.o,N.o];rfl),b,B⟩
    case measure=>simp [intOf];omega
  | some j=>
    have aI:=T.leave_lt G c i j hlv;have az:(j:Int)<(m:Int)+1:=by omega
    have aG:(0:Int)<=(j:Int):=by omega
    have d2:decide ((j:Int)<0)=false:=by rw [decide_eq_false_iff_not];omega
    have d3:ziz (some j)=(j:Int):=rfl;have ae:=ze hlv;clear hlv;rw [d3];go_wp2_with fail;refine ab.o.mono ?_;rintro e w1 ⟨rfl,V⟩;replace b:=ze (b.o.below V);replace B:=eb_ B V;clear V ab t3 t4 a0 X U d3;have t3:=b.o.cell3;have t4:=b.o.mat.cell (i:=j) (by omega)
    skip
    go_upto_region 10 with fail
    clear t3 t4;obtain ⟨ax,aA,an,ac,ag,a0,X,U,ha⟩:=b.o.mat.at_ (i:=i) (k:=c) (by omega) hc;obtain ⟨bx,bA,bn,bc,bg,b0,b1,b2,ak⟩:=b.o.mat.at_ (i:=j) (k:=c) (by omega) hc;obtain ⟨cx,cA,cn,cc,cg,c0,c1,c2,aj⟩:=b.o.mat.at_ (i:=i) (k:=0) (by omega) (by omega);obtain ⟨ex,eA,en,ec,eg,e0,e1,e2,ao⟩:=b.o.mat.at_ (i:=j) (k:=0) (by omega) (by omega);simp only [Nat.zero_mul,Nat.zero_add] at c0 c1 c2 e0 e1 e2;have l:=(b.o.mat.rows i (by omega)).2.lt;have u:=(b.o.mat.rows j (by omega)).2.lt;have HA:=ze ha;have ai:=ze ak;have ar:=ze aj;have av:=ze ao;have N1:=ze (HF.o.cell i c (by omega) hc);have N2:=ze (HF.o.cell j c (by omega) hc);have N3:=ze (HF.o.cell i 0 (by omega) (by omega));have N4:=ze (HF.o.cell j 0 (by omega) (by omega));clear ha ak aj ao
    refine zt (S:=fun w' =>Hid (Below w1.heap.size w1 w')/\w'.cell? ⟨F.g i,c*3,none⟩=some (.int .i64 ax)/\w'.cell? ⟨F.g i,c*3+1,none⟩=some (.slice aA an ac)/\w'.cell? ⟨F.g i,c*3+2,none⟩=some (.bool ag)/\w'.cell? ⟨F.g j,c*3,none⟩=some (.int .i64 bx)/\w'.cell? ⟨F.g j,c*3+1,none⟩=some (.slice bA bn bc)/\w'.cell? ⟨F.g j,c*3+2,none⟩=some (.bool bg)/\w'.cell? ⟨F.g i,0,none⟩=some (.int .i64 cx)/\w'.cell? ⟨F.g i,1,none⟩=some (.slice cA cn cc)/\w'.cell? ⟨F.g i,2,none⟩=some (.bool cg)/\w'.cell? ⟨F.g j,0,none⟩=some (.int .i64 ex)/\w'.cell? ⟨F.g j,1,none⟩=some (.slice eA en ec)/\w'.cell? ⟨F.g j,2,none⟩=some (.bool eg)) 7 12 19 rfl (by kernel_rfl) (by kernel_rfl) (by kernel_rfl) rfl (zl (zu w1) (fun hB=>⟨zh hB l a0,zh hB l X,zh hB l U,zh hB u b0,zh hB u b1,zh hB u b2,zh hB l c0,zh hB l c1,zh hB l c2,zh hB u e0,zh hB u e1,zh hB u e2⟩)) ?_ (fun hHeld=>?_)
    . intro _ _ _ _ _ Q;exact Q
    simp only [List.take_succ_cons,List.take_zero]
    iterate 7 refine ye ?_
    refine zU ?_;refine HH.tk 9 ?_;refine HH.tk 10 ?_;refine HH.tk 11 ?_;refine HH.tk 12 ?_;refine HH.tk 13 ?_;refine HH.tk 14 ?_;refine HH.tk 15 ?_;refine HH.rd 7 (fun K hK=>?_)
    go_simp
    go_at_call 72;refine (yY _ _ _ (ai.o.below hHeld.1.out)).mono ?_;rintro e w2 ⟨v1,rfl,R,r⟩;have au:=ze R;clear R;have y:=hHeld;clear hHeld;refine hK.out _ _ (zl (zr r y.1) (fun hB=>⟨zh hB l a0,zh hB l X,zh hB l U,zh hB u b0,zh hB u b1,zh hB u b2,zh hB l c0,zh hB l c1,zh hB l c2,zh hB u e0,zh hB u e1,zh hB u e2⟩)) (fun hHeld=>?_);clear y hK K
    try simp only [Act.put,xST]
    clear r;refine HH.rd 8 (fun K hK=>?_)
    go_simp
    go_at_call 55;refine (vq _ _ _ _ _ (ar.o.below hHeld.1.out) au.o (N3.o.le2 (by omega)) (N2.o.neg.le2 (by omega))).mono ?_;rintro e w3 ⟨v2,rfl,R,r⟩;have ad:=ze R;clear R au;have y:=hHeld;clear hHeld;refine hK.out _ _ (zl (zr r y.1) (fun hB=>⟨zh hB l a0,zh hB l X,zh hB l U,zh hB u b0,zh hB u b1,zh hB u b2,zh hB l c0,zh hB l c1,zh hB l c2,zh hB u e0,zh hB u e1,zh hB u e2⟩)) (fun hHeld=>?_);clear y hK K
    try simp only [Act.put,xST]
    clear r;refine HH.rd 16 (fun K hK=>?_)
    go_simp
    go_at_call 72;refine (yY _ _ _ (HA.o.below hHeld.1.out)).mono ?_;rintro e w4 ⟨v3,rfl,R,r⟩;have aq:=ze R;replace ad:=ze (ad.o.below r);clear R;have y:=hHeld;clear hHeld;refine hK.out _ _ (zl (zr r y.1) (fun hB=>⟨zh hB l a0,zh hB l X,zh hB l U,zh hB u b0,zh hB u b1,zh hB u b2,zh hB l c0,zh hB l c1,zh hB l c2,zh hB u e0,zh hB u e1,zh hB u e2⟩)) (fun hHeld=>?_);clear y hK K
    try simp only [Act.put,xST]
    clear r;refine HH.rd 17 (fun K hK=>?_)
    go_simp
    go_at_call 55;refine (vq _ _ _ _ _ (av.o.below hHeld.1.out) aq.o (N4.o.le2 (by omega)) (N1.o.neg.le2 (by omega))).mono ?_;rintro e w5 ⟨v4,rfl,R,r⟩;have al:=ze R;replace ad:=ze (ad.o.below r);clear R aq;have y:=hHeld;clear hHeld;refine hK.out _ _ (zl (zr r y.1) (fun hB=>⟨zh hB l a0,zh hB l X,zh hB l U,zh hB u b0,zh hB u b1,zh hB u b2,zh hB l c0,zh hB l c1,zh hB l c2,zh hB u e0,zh hB u e1,zh hB u e2⟩)) (fun hHeld=>?_);clear y hK K
    try simp only [Act.put,xST]
    clear r;refine HH.rd 18 (fun K hK=>?_)
    go_simp
    go_at_call 110;refine (zja _ _ _ _ _ ad.o al.o (XG N3.o N2.o.neg (by omega)) (XG N4.o N1.o.neg (by omega))).mono ?_;rintro e M ⟨rfl,r⟩;have y:=hHeld;clear hHeld;refine hK.out _ _ (zl (zr r y.1) (fun hB=>⟨zh hB l a0,zh hB l X,zh hB l U,zh hB u b0,zh hB u b1,zh hB u b2,zh hB l c0,zh hB l c1,zh hB l c2,zh hB u e0,zh hB u e1,zh hB u e2⟩)) (fun hHeld=>?_);clear y hK K
    try simp only [Act.put,xST]
    clear r ad al;have D:=(hHeld.1).out;replace b:=ze (yi.below b.o D);replace B:=eb_ B D;clear D hHeld;refine HH.done (by kernel_rfl) ?_;simp only [List.drop_succ_cons,List.drop_zero];clear HA ai ar av N1 N2 N3 N4 a0 X U b0 b1 b2 c0 c1 c2 e0 e1 e2 l u;obtain ⟨cv,am⟩:∃ cv:Int,zP (T.cell i 0* -(T.cell j c)) (T.cell j 0* -(T.cell i c))=cv:=⟨_,rfl⟩;have O:=zcw (T.cell i 0* -(T.cell j c)) (T.cell j 0* -(T.cell i c));rw [am] at O |-;clear am
    go_upto_region 11 with fail
    skip
    have I:=b.o.lt;obtain ⟨J,cb,eb,C,Z⟩:=b.o.basics (by omega);have E:=b.o.cell7;rw [eb] at E;have o1:=Z i ay;have o2:=Z j (by omega);have aF:(j:Int)<(m:Int):=by omega
    rcases O with ⟨O,rfl⟩ | ⟨O,rfl⟩ | ⟨O,rfl⟩
    . have N:Hid (T.leave G c (i+1)=some i):=T.leave_yes (Int.not_le.2 HP.o) ae.o (.inl O)
      clear O;refine zt (S:=fun w' =>Hid (Below M.heap.size M w')/\w'.cell? ⟨F.gt,7,none⟩=some (.slice (some ⟨J,0,none⟩) m cb)/\w'.cell? ⟨J,i,none⟩=some (.int .i64 (T.basic i:Nat))/\w'.cell? ⟨J,j,none⟩=some (.int .i64 (T.basic j:Nat))) 3 43 46 rfl (by kernel_rfl) (by kernel_rfl) (by kernel_rfl) rfl (zl (zu M) (fun hB=>⟨zh hB I E,zh hB C o1,zh hB C o2⟩)) ?_ (fun hHeld=>?_)
      . intro _ _ _ _ _ Q;exact Q
      simp only [List.take_succ_cons,List.take_zero]
      iterate 3 refine ye ?_
      refine zU ?_;refine HH.sk 3 ?_;refine HH.sk 4 ?_;refine HH.sk 5 ?_;refine HH.sk 6 ?_;refine HH.sk 7 ?_;refine HH.sk 8 ?_;refine HH.sk 9 ?_;refine HH.sk 10 ?_;refine HH.sk 11 ?_;refine HH.sk 12 ?_;refine HH.sk 13 ?_;refine HH.sk 14 ?_;refine HH.sk 15 ?_;refine HH.sk 16 ?_;refine HH.sk 17 ?_;refine HH.sk 18 ?_;refine HH.sk 19 ?_;refine HH.sk 20 ?_;refine HH.sk 21 ?_;refine HH.sk 22 ?_;refine HH.sk 23 ?_;refine HH.sk 24 ?_;refine HH.sk 25 ?_;refine HH.sk 26 ?_;refine HH.sk 27 ?_;refine HH.sk 28 ?_;refine HH.sk 29 ?_;refine HH.sk 30 ?_;refine HH.sk 31 ?_;refine HH.sk 32 ?_;refine HH.sk 33 ?_;refine HH.sk 34 ?_;refine HH.sk 35 ?_;refine HH.sk 36 ?_;refine HH.sk 37 ?_;refine HH.sk 38 ?_;refine HH.sk 39 ?_;refine HH.sk 40 ?_;refine HH.sk 41 ?_;refine HH.sk 42 ?_;refine HH.sk 43 ?_;refine HH.sk 44 ?_;refine HH.sk 45 ?_;have D:=(hHeld.1).out;replace b:=ze (yi.below b.o D);replace B:=eb_ B D;clear D hHeld;refine HH.done (by kernel_rfl) ?_;simp only [List.drop_succ_cons,List.drop_zero];clear E o1 o2 I C Z;go_wp2_with fail;go_roundw
      case rel=>exact ⟨i+1,by omega,by go_num,(by rw [Y.o,N.o];rfl),b,B⟩
      case measure=>simp [intOf];omega
    . by_cases h3:T.basic i=G
      . have N:Hid (T.leave G c (i+1)=some i):=T.leave_yes (Int.not_le.2 HP.o) ae.o (.inr ⟨O,.inl h3⟩)
        have d4:((T.basic i:Int) == (G:Int))=true:=by rw [beq_iff_eq];omega
        clear O h3;refine zt (S:=fun w' =>Hid (Below M.heap.size M w')/\w'.cell? ⟨F.gt,7,none⟩=some (.slice (some ⟨J,0,none⟩) m cb)/\w'.cell? ⟨J,i,none⟩=some (.int .i64 (T.basic i:Nat))/\w'.cell? ⟨J,j,none⟩=some (.int .i64 (T.basic j:Nat))) 3 43 46 rfl (by kernel_rfl) (by kernel_rfl) (by kernel_rfl) rfl (zl (zu M) (fun hB=>⟨zh hB I E,zh hB C o1,zh hB C o2⟩)) ?_ (fun hHeld=>?_)
        . intro _ _ _ _ _ Q;exact Q
        simp only [List.take_succ_cons,List.take_zero]
        iterate 3 refine ye ?_
        refine zU ?_;refine HH.tk 3 ?_;refine HH.tk 4 ?_;refine HH.tk 5 ?_;refine HH.tk 6 ?_;refine HH.tk 7 ?_;refine HH.tk 8 ?_;refine HH.tk 9 ?_;refine HH.tk 10 ?_;refine HH.tk 11 ?_;refine HH.tk 12 ?_;refine HH.tk 13 ?_;refine HH.rd 14 (fun K hK=>?_);rw [if_pos (by rfl)]
        go_simp
        go_at_call 66;refine (aa.o _ (b.o.below hHeld.1.out)).mono ?_;rintro e w7 ⟨rfl,r⟩;have y:=hHeld;clear hHeld;refine hK.out _ _ (zl (zr r y.1) (fun hB=>⟨zh hB I E,zh hB C o1,zh hB C o2⟩)) (fun hHeld=>?_);clear y hK K
        try simp only [Act.put,xST]
        clear r;refine HH.tk 15 ?_;refine HH.tk 16 ?_;refine HH.sk 17 ?_;refine HH.sk 18 ?_;refine HH.sk 19 ?_;refine HH.sk 20 ?_;refine HH.sk 21 ?_;refine HH.sk 22 ?_;refine HH.sk 23 ?_;refine HH.sk 24 ?_;refine HH.sk 25 ?_;refine HH.sk 26 ?_;refine HH.sk 27 ?_;refine HH.sk 28 ?_;refine HH.sk 29 ?_;refine HH.sk 30 ?_;refine HH.sk 31 ?_;refine HH.sk 32 ?_;refine HH.sk 33 ?_;refine HH.sk 34 ?_;refine HH.sk 35 ?_;refine HH.sk 36 ?_;refine HH.sk 37 ?_;refine HH.sk 38 ?_;refine HH.sk 39 ?_;refine HH.sk 40 ?_;refine HH.sk 41 ?_;refine HH.sk 42 ?_;refine HH.sk 43 ?_;refine HH.tk 44 ?_;refine HH.tk 45 ?_;have D:=(hHeld.1).out;replace b:=ze (yi.below b.o D);replace B:=eb_ B D;clear D hHeld;refine HH.done (by kernel_rfl) ?_;simp only [List.drop_succ_cons,List.drop_zero];clear E o1 o2 I C Z;go_wp2_with fail;go_roundw
        case rel=>exact ⟨i+1,by omega,by go_num,(by rw [Y.o,N.o];rfl),b,B⟩
        case measure=>simp [intOf];omega
      have d4:((T.basic i:Int) == (G:Int))=false:=by rw [beq_eq_false_iff_ne];omega
      by_cases h4:T.basic j=G
      . have N:Hid (T.leave G c (i+1)=some j):=T.leave_no (Int.not_le.2 HP.o) ae.o (fun h=>by
         rcases h with h | ⟨_,h | ⟨h,_⟩⟩
         . omega
         . exact h3 h
         . exact h h4)
        have d5:((T.basic j:Int) != (G:Int))=false:=by rw [bne_eq_false_iff_eq];omega
        clear O h3 h4;refine zt (S:=fun w' =>Hid (Below M.heap.size M w')/\w'.cell? ⟨F.gt,7,none⟩=some (.slice (some ⟨J,0,none⟩) m cb)/\w'.cell? ⟨J,i,none⟩=some (.int .i64 (T.basic i:Nat))/\w'.cell? ⟨J,j,none⟩=some (.int .i64 (T.basic j:Nat))) 3 43 46 rfl (by kernel_rfl) (by kernel_rfl) (by kernel_rfl) rfl (zl (zu M) (fun hB=>⟨zh hB I E,zh hB C o1,zh hB C o2⟩)) ?_ (fun hHeld=>?_)
        . intro _ _ _ _ _ Q;exact Q
        simp only [List.take_succ_cons,List.take_zero]
        iterate 3 refine ye ?_
        refine zU ?_;refine HH.tk 3 ?_;refine HH.tk 4 ?_;refine HH.tk 5 ?_;refine HH.tk 6 ?_;refine HH.tk 7 ?_;refine HH.tk 8 ?_;refine HH.tk 9 ?_;refine HH.tk 10 ?_;refine HH.tk 11 ?_;refine HH.tk 12 ?_;refine HH.tk 13 ?_;refine HH.rd 14 (fun K hK=>?_);rw [if_pos (by rfl)]
        go_simp
        go_at_call 66;refine (aa.o _ (b.o.below hHeld.1.out)).mono ?_;rintro e w7 ⟨rfl,r⟩;have y:=hHeld;clear hHeld;refine hK.out _ _ (zl (zr r y.1) (fun hB=>⟨zh hB I E,zh hB C o1,zh hB C o2⟩)) (fun hHeld=>?_);clear y hK K
        try simp only [Act.put,xST]
        clear r;refine HH.tk 15 ?_;refine HH.tk 16 ?_;refine HH.tk 17 ?_;refine HH.tk 18 ?_;refine HH.tk 19 ?_;refine HH.tk 20 ?_;refine HH.tk 21 ?_;refine HH.tk 22 ?_;refine HH.tk 23 ?_;refine HH.tk 24 ?_;refine HH.rd 25 (fun K hK=>?_);rw [if_pos (by rfl)]
        go_simp
        go_at_call 66;refine (aa.o _ (b.o.below hHeld.1.out)).mono ?_;rintro e w8 ⟨rfl,r⟩;have y:=hHeld;clear hHeld;refine hK.out _ _ (zl (zr r y.1) (fun hB=>⟨zh hB I E,zh hB C o1,zh hB C o2⟩)) (fun hHeld=>?_);clear y hK K
        try simp only [Act.put,xST]
        clear r;refine HH.tk 26 ?_;refine HH.tk 27 ?_;refine HH.sk 28 ?_;refine HH.sk 29 ?_;refine HH.sk 30 ?_;refine HH.sk 31 ?_;refine HH.sk 32 ?_;refine HH.sk 33 ?_;refine HH.sk 34 ?_;refine HH.sk 35 ?_;refine HH.sk 36 ?_;refine HH.sk 37 ?_;refine HH.sk 38 ?_;refine HH.sk 39 ?_;refine HH.sk 40 ?_;refine HH.sk 41 ?_;refine HH.sk 42 ?_;refine HH.tk 43 ?_;refine HH.tk 44 ?_;refine HH.tk 45 ?_;have D:=(hHeld.1).out;replace b:=ze (yi.below b.o D);replace B:=eb_ B D;clear D hHeld;refine HH.done (by kernel_rfl) ?_;simp only [List.drop_succ_cons,List.drop_zero];clear E o1 o2 I C Z;go_wp2_with fail;go_roundw
        case rel=>exact ⟨i+1,by omega,by go_num,(by rw [Y.o,N.o];rfl),b,B⟩
        case measure=>simp [intOf];omega
      have d5:((T.basic j:Int) != (G:Int))=true:=by rw [bne_iff_ne];omega
      by_cases h5:T.basic i<T.basic j
      . have N:Hid (T.leave G c (i+1)=some i):=T.leave_yes (Int.not_le.2 HP.o) ae.o (.inr ⟨O,.inr ⟨h4,h5⟩⟩)
        have d6:decide ((T.basic i:Int)<(T.basic j:Int))=true:=by rw [decide_eq_true_iff];omega
        have d7:decide (T.basic i<T.basic j)=true:=decide_eq_true h5;clear O h3 h4;refine zt (S:=fun w' =>Hid (Below M.heap.size M w')/\w'.cell? ⟨F.gt,7,none⟩=some (.slice (some ⟨J,0,none⟩) m cb)/\w'.cell? ⟨J,i,none⟩=some (.int .i64 (T.basic i:Nat))/\w'.cell? ⟨J,j,none⟩=some (.int .i64 (T.basic j:Nat))) 3 43 46 rfl (by kernel_rfl) (by kernel_rfl) (by kernel_rfl) rfl (zl (zu M) (fun hB=>⟨zh hB I E,zh hB C o1,zh hB C o2⟩)) ?_ (fun hHeld=>?_)
        . intro _ _ _ _ _ Q;exact Q
        simp only [List.take_succ_cons,List.take_zero]
        iterate 3 refine ye ?_
        refine zU ?_;refine HH.tk 3 ?_;refine HH.tk 4 ?_;refine HH.tk 5 ?_;refine HH.tk 6 ?_;refine HH.tk 7 ?_;refine HH.tk 8 ?_;refine HH.tk 9 ?_;refine HH.tk 10 ?_;refine HH.tk 11 ?_;refine HH.tk 12 ?_;refine HH.tk 13 ?_;refine HH.rd 14 (fun K hK=>?_);rw [if_pos (by rfl)]
        go_simp
        go_at_call 66;refine (aa.o _ (b.o.below hHeld.1.out)).mono ?_;rintro e w7 ⟨rfl,r⟩;have y:=hHeld;clear hHeld;refine hK.out _ _ (zl (zr r y.1) (fun hB=>⟨zh hB I E,zh hB C o1,zh hB C o2⟩)) (fun hHeld=>?_);clear y hK K
        try simp only [Act.put,xST]
        clear r;refine HH.tk 15 ?_;refine HH.tk 16 ?_;refine HH.tk 17 ?_;refine HH.tk 18 ?_;refine HH.tk 19 ?_;refine HH.tk 20 ?_;refine HH.tk 21 ?_;refine HH.tk 22 ?_;refine HH.tk 23 ?_;refine HH.tk 24 ?_;refine HH.rd 25 (fun K hK=>?_);rw [if_pos (by rfl)]
        go_simp
        go_at_call 66;refine (aa.o _ (b.o.below hHeld.1.out)).mono ?_;rintro e w8 ⟨rfl,r⟩;have y:=hHeld;clear hHeld;refine hK.out _ _ (zl (zr r y.1) (fun hB=>⟨zh hB I E,zh hB C o1,zh hB C o2⟩)) (fun hHeld=>?_);clear y hK K
        try simp only [Act.put,xST]
        clear r;refine HH.tk 26 ?_;refine HH.tk 27 ?_;refine HH.tk 28 ?_;refine HH.tk 29 ?_;refine HH.tk 30 ?_;refine HH.tk 31 ?_;refine HH.tk 32 ?_;refine HH.tk 33 ?_;refine HH.tk 34 ?_;refine HH.tk 35 ?_;refine HH.tk 36 ?_;refine HH.tk 37 ?_;refine HH.tk 38 ?_;refine HH.tk 39 ?_;refine HH.tk 40 ?_;refine HH.tk 41 ?_;refine HH.tk 42 ?_;refine HH.tk 43 ?_;refine HH.tk 44 ?_;refine HH.tk 45 ?_;have D:=(hHeld.1).out;replace b:=ze (yi.below b.o D);replace B:=eb_ B D;clear D hHeld;refine HH.done (by kernel_rfl) ?_;simp only [List.drop_succ_cons,List.drop_zero];clear E o1 o2 I C Z;go_wp2_with fail;go_roundw
        case rel=>exact ⟨i+1,by omega,by go_num,(by rw [Y.o,N.o];rfl),b,B⟩
        case measure=>simp [intOf];omega
      have N:Hid (T.leave G c (i+1)=some j):=T.leave_no (Int.not_le.2 HP.o) ae.o (fun h=>by
       rcases h with h | ⟨_,h | ⟨_,h⟩⟩
       . omega
       . exact h3 h
       . exact h5 h)
      have d6:decide ((T.basic i:Int)<(T.basic j:Int))=false:=by rw [decide_eq_false_iff_not];omega
      have d7:decide (T.basic i<T.basic j)=false:=decide_eq_false h5;clear O h3 h4;refine zt (S:=fun w' =>Hid (Below M.heap.size M w')/\w'.cell? ⟨F.gt,7,none⟩=some (.slice (some ⟨J,0,none⟩) m cb)/\w'.cell? ⟨J,i,none⟩=some (.int .i64 (T.basic i:Nat))/\w'.cell? ⟨J,j,none⟩=some (.int .i64 (T.basic j:Nat))) 3 43 46 rfl (by kernel_rfl) (by kernel_rfl) (by kernel_rfl) rfl (zl (zu M) (fun hB=>⟨zh hB I E,zh hB C o1,zh hB C o2⟩)) ?_ (fun hHeld=>?_)
      . intro _ _ _ _ _ Q;exact Q
      simp only [List.take_succ_cons,List.take_zero]
      iterate 3 refine ye ?_
      refine zU ?_;refine HH.tk 3 ?_;refine HH.tk 4 ?_;refine HH.tk 5 ?_;refine HH.tk 6 ?_;refine HH.tk 7 ?_;refine HH.tk 8 ?_;refine HH.tk 9 ?_;refine HH.tk 10 ?_;refine HH.tk 11 ?_;refine HH.tk 12 ?_;refine HH.tk 13 ?_;refine HH.rd 14 (fun K hK=>?_);rw [if_pos (by rfl)]
      go_simp
      go_at_call 66;refine (aa.o _ (b.o.below hHeld.1.out)).mono ?_;rintro e w7 ⟨rfl,r⟩;have y:=hHeld;clear hHeld;refine hK.out _ _ (zl (zr r y.1) (fun hB=>⟨zh hB I E,zh hB C o1,zh hB C o2⟩)) (fun hHeld=>?_);clear y hK K
      try simp only [Act.put,xST]
      clear r;refine HH.tk 15 ?_;refine HH.tk 16 ?_;refine HH.tk 17 ?_;refine HH.tk 18 ?_;refine HH.tk 19 ?_;refine HH.tk 20 ?_;refine HH.tk 21 ?_;refine HH.tk 22 ?_;refine HH.tk 23 ?_;refine HH.tk 24 ?_;refine HH.rd 25 (fun K hK=>?_);rw [if_pos (by rfl)]
      go_simp
      go_at_call 66;refine (aa.o _ (b.o.below hHeld.1.out)).mono ?_;rintro e w8 ⟨rfl,r⟩;have y:=hHeld;clear hHeld;refine hK.out _ _ (zl (zr r y.1) (fun hB=>⟨zh hB I E,zh hB C o1,zh hB C o2⟩)) (fun hHeld=>?_);clear y hK K
      try simp only [Act.put,xST]
      clear r;refine HH.tk 26 ?_;refine HH.tk 27 ?_;refine HH.tk 28 ?_;refine HH.tk 29 ?_;refine HH.tk 30 ?_;refine HH.tk 31 ?_;refine HH.tk 32 ?_;refine HH.tk 33 ?_;refine HH.tk 34 ?_;refine HH.tk 35 ?_;refine HH.tk 36 ?_;refine HH.tk 37 ?_;refine HH.tk 38 ?_;refine HH.tk 39 ?_;refine HH.tk 40 ?_;refine HH.tk 41 ?_;refine HH.tk 42 ?_;refine HH.tk 43 ?_;refine HH.tk 44 ?_;refine HH.tk 45 ?_;have D:=(hHeld.1).out;replace b:=ze (yi.below b.o D);replace B:=eb_ B D;clear D hHeld;refine HH.done (by kernel_rfl) ?_;simp only [List.drop_succ_cons,List.drop_zero];clear E o1 o2 I C Z;go_wp2_with fail;go_roundw
      case rel=>exact ⟨i+1,by omega,by go_num,(by rw [Y.o,N.o];rfl),b,B⟩
      case measure=>simp [intOf];omega
    . have N:Hid (T.leave G c (i+1)=some j):=T.leave_no (Int.not_le.2 HP.o) ae.o (fun h=>by
       rcases h with h | ⟨h,_⟩<;>omega)
      clear O;refine zt (S:=fun w' =>Hid (Below M.heap.size M w')/\w'.cell? ⟨F.gt,7,none⟩=some (.slice (some ⟨J,0,none⟩) m cb)/\w'.cell? ⟨J,i,none⟩=some (.int .i64 (T.basic i:Nat))/\w'.cell? ⟨J,j,none⟩=some (.int .i64 (T.basic j:Nat))) 3 43 46 rfl (by kernel_rfl) (by kernel_rfl) (by kernel_rfl) rfl (zl (zu M) (fun hB=>⟨zh hB I E,zh hB C o1,zh hB C o2⟩)) ?_ (fun hHeld=>?_)
      . intro _ _ _ _ _ Q;exact Q
      simp only [List.take_succ_cons,List.take_zero]
      iterate 3 refine ye ?_
      refine zU ?_;refine HH.tk 3 ?_;refine HH.tk 4 ?_;refine HH.tk 5 ?_;refine HH.sk 6 ?_;refine HH.sk 7 ?_;refine HH.sk 8 ?_;refine HH.sk 9 ?_;refine HH.sk 10 ?_;refine HH.sk 11 ?_;refine HH.sk 12 ?_;refine HH.sk 13 ?_;refine HH.sk 14 ?_;refine HH.sk 15 ?_;refine HH.sk 16 ?_;refine HH.sk 17 ?_;refine HH.sk 18 ?_;refine HH.sk 19 ?_;refine HH.sk 20 ?_;refine HH.sk 21 ?_;refine HH.sk 22 ?_;refine HH.sk 23 ?_;refine HH.sk 24 ?_;refine HH.sk 25 ?_;refine HH.sk 26 ?_;refine HH.sk 27 ?_;refine HH.sk 28 ?_;refine HH.sk 29 ?_;refine HH.sk 30 ?_;refine HH.sk 31 ?_;refine HH.sk 32 ?_;refine HH.sk 33 ?_;refine HH.sk 34 ?_;refine HH.sk 35 ?_;refine HH.sk 36 ?_;refine HH.sk 37 ?_;refine HH.sk 38 ?_;refine HH.sk 39 ?_;refine HH.sk 40 ?_;refine HH.sk 41 ?_;refine HH.sk 42 ?_;refine HH.sk 43 ?_;refine HH.sk 44 ?_;refine HH.tk 45 ?_;have D:=(hHeld.1).out;replace b:=ze (yi.below b.o D);replace B:=eb_ B D;clear D hHeld;refine HH.done (by kernel_rfl) ?_;simp only [List.drop_succ_cons,List.drop_zero];clear E o1 o2 I C Z;go_wp2_with fail;go_roundw
      case rel=>exact ⟨i+1,by omega,by go_num,(by rw [Y.o,N.o];rfl),b,B⟩
      case measure=>simp [intOf];omega
def wtN (T:yE) (nn m:Nat) (sc:Nat->Int) (b:Int):Nat->Nat->Rat
 | 0=>fun _=>0
 | n+1=>fun i=>if T.other n=2*nn+i then Rat.divInt (-(T.cell m (n+1))*sc i) (T.den*b) else wtN T nn m sc b n i
def zaa (w:World) (g n:Nat) (f:Nat->Int):Prop:=g<w.heap.size/\∀ k,k<n->zem w g k (f k)
theorem zaa.below {w w' :World} {g n:Nat} {f:Nat->Int} (h:zaa w g n f) (hb:Below w.heap.size w w'):zaa w' g n f:=⟨Nat.lt_of_lt_of_le h.1 hb.size,fun k hk=>(h.2 k hk).below hb⟩
theorem zaf {w w1 w2:World} {g:Nat} (h:Below w.heap.size w w1) (hc:Chg (· =g) w1 w2) (hg:w.heap.size<=g):Below w.heap.size w w2:=h.trans (hc.below h.size (fun b e=>by omega))
def ztc (m:Nat) (f:Nat->Rat) (w:World) (e:Ending) (w' :World):Prop:=∃ g,e= .returned (.slice (some ⟨g,0,none⟩) m m)/\xo w' g m m f/\Below w.heap.size w w'
def WtA (w0:World) (m g gb:Nat) (z:Int) (iv:Value) (wr:World):Prop:=
 ∃ i:Nat,i<=m/\iv= .int .i64 i/\Hid (xo wr g m i (fun _=>0))/\Hid (Yo wr gb z)/\Hid (Below w0.heap.size w0 wr)
def WtB (w0:World) (m L g gb nn:Nat) (T:yE) (sc:Nat->Int) (z:Int) (kv:Value) (wr:World):Prop:=
 ∃ k:Nat,k<=L - 1/\kv= .int .i64 k/\Hid (xo wr g m m (wtN T nn m sc z k))/\Hid (Yo wr gb z)/\Hid (Below w0.heap.size w0 wr)
theorem zfj (base m L:Nat) (F:ya) (T:yE) (gs cs:Nat) (sc:Nat->Int) (vn:Value) (z:Int) (w:World) (hT:yi base m L F w T) (hs:zaa w gs m sc) (hn:yb w vn z) (hf:T.Fits m L) (hz:Fit z) (hz0:z≠0)
 (hsc:∀ i,i<m->Fit (sc i)) (hm:m<=100000) (hL:L<=100000) (ho:∀ k,k<L - 1->T.other k<=1000000):
 Calls Tryz.prog 63 #[.pointer (some ⟨F.gt,0,none⟩),.slice (some ⟨gs,0,none⟩) m cs,vn] w (ztc m (wtN T F.nn m sc z (L - 1)) w):=by
 obtain ⟨x2,A2,k2,c2,s2,rfl,_,_,_⟩:=hn.form
 obtain ⟨Q,av⟩:∃ x,x=w.alloc (.cells #[.int .i64 x2,.slice A2 k2 c2,.bool s2] 53):=⟨_,rfl⟩
 have U:=zf w (.cells #[.int .i64 x2,.slice A2 k2 c2,.bool s2] 53)
 have au:=Blk.new w 53 #[.int .i64 x2,.slice A2 k2 c2,.bool s2]
 rw [<- av] at U au
 have u:Hid (Yo Q w.heap.size z):=⟨_,_,_,_,_,au,hn.below U⟩
 have r:=ze U
 have Z:=ze hT
 have aP:=ze hs
 have HF:=ze hf
 have HZ:=ze hz
 have aQ:=ze hz0
 have aV:=ze hsc
 have HO:=ze ho
 clear hn U au hT hs hf hz hz0 hsc ho
 go_enter func63,ntmps63
 go_upto_region 1 with fail
 rw [<- av]
 clear av
 have aT:=ze (Nat.le_refl w.heap.size)
 generalize aw:w.heap.size=gv at u |-
 have aY:Hid (w.heap.size<=gv):=Nat.le_of_eq aw
 clear aw aT
 have t1:=(Z.o.below r.o).cell1
 have aU:=fun w=>zh4 .i64 m hm w
 go_upto_region 2 with fail
 have U:=zf Q (.cells (vP m) 55)
 have l:Hid (xo (Q.alloc (.cells (vP m) 55)) Q.heap.size m 0 (fun _=>0)):=zlj Q m _
 have ab:Hid (w.heap.size<=Q.heap.size/\gv<Q.heap.size):=⟨r.o.size,u.o.lt⟩
 replace u:=ze (u.o.below U)
 replace r:=eb_ r U
 clear U aU t1
 generalize Q.alloc (.cells (vP m) 55)=W1 at u r l |-
 generalize Q.heap.size=g at l ab |-
 go_wp2_with fail
 go_loopw [21] (WtA w m g gv z) (fun iv _=>m - (intOf iv).toNat)
 case atStart=>exact ⟨0,Nat.zero_le _,rfl,l,u,r⟩
 case round=>
  clear l u r
  obtain ⟨i,hi,rfl,l,u,r⟩:=hrel
  by_cases aO:i<m
  . have aS:(i:Int)<(m:Int):=by omega
    go_wp2_with fail;refine (YC 0 _ (by omega) (by omega)).mono ?_;rintro e w1 ⟨v,rfl,⟨x,A,k,c,s,y,B,k',c',t,rfl,ai,am⟩,al⟩;replace l:=ze (l.o.below al);replace u:=ze (u.o.below al);replace r:=eb_ r al;obtain ⟨u0,u1,u2,u3,u4,u5,s0,s1,s2,s3,s4,s5⟩:=l.o.slots aO;have f0:=l.o.frozen (i*6);have f1:=l.o.frozen (i*6+1);have f2:=l.o.frozen (i*6+2);have f3:=l.o.frozen (i*6+3);have f4:=l.o.frozen (i*6+4);have f5:=l.o.frozen (i*6+5);have hq:yc w1 (.agg #[.int .i64 x,.slice A k c,.bool s,.int .i64 y,.slice B k' c',.bool t]) 0:=⟨_,_,_,_,_,_,_,_,_,_,rfl,ai,am⟩;have V:=Vn (w:=w1) (g:=g) (k:=i) (x:=x) (s:=s) (A:=A) (n:=k) (c:=c) (y:=y) (t:=t) (B:=B) (n' :=k') (c' :=c')
    have R:Hid (xo (World.ratAt w1 g i x A k c s y B k' c' t) g m (i+1) (fun _=>0)):=l.o.set aO hq (fun j hj=>by
     by_cases e:j=i
     . exact .inl ⟨e,rfl⟩
     exact .inr ⟨e,by omega,rfl⟩)
    have aa:=ze (u.o.chg V (by have:=ab.o.2;omega) (fun b e=>by subst e;exact l.o.noDig));have ad:=ze (zaf r.o V ab.o.1);clear l u r hq V ai am al;go_wp2_with fail;go_roundw
    case rel=>first | exact ⟨i+1,by omega,by go_num,R,aa,ad⟩ | ((repeat apply Exists.intro);exact ⟨⟨i+1,by omega,by go_num,R,aa,ad⟩,rfl⟩)
    case measure=>simp [intOf];omega
  obtain rfl:m=i:=by omega
  skip
  obtain ⟨go,co,eo,aC,aN⟩:=Z.o.others;have aR:=ze (fun wr (h:Below w.heap.size w wr) k (hk:k<L - 1)=>(h.cell (p:=⟨go,k,none⟩) aC).trans (aN k hk));have M:=ze (Z.o.below r.o);have t1:=M.o.cell1;have t3:=M.o.cell3;have t4:=M.o.mat.cell (i:=m) (by omega);have aZ:(m:Int)<(m:Int)+1:=by omega
  clear aC aN
  go_upto_region 7 with fail
  go_region
  replace l:=ze (l.o.below (zu _).out);replace u:=ze (u.o.below (zu _).out);replace r:=ze (ext r.o (zu _).out);clear t1 t3 t4 M;generalize wr.drew=W3 at l u r |-;have t8:=(Z.o.below r.o).cell8;rw [eo] at t8;have a3:IntKind.i64.wrap (2*(F.nn:Int))=2*(F.nn:Int):=by have:=Z.o.cols;rw [IntKind.wrap_i64];omega
  have a6:F.nn<=100000:=by have:=Z.o.cols;omega
  go_wp2_with fail
  go_loopw [45] (WtB w m L g gv F.nn T sc z) (fun kv _=>L - 1 - (intOf kv).toNat)
  case atStart=>exact ⟨0,Nat.zero_le _,rfl,l,u,r⟩
  case round=>
   clear l u r t8;obtain ⟨k,hk,rfl,l,u,r⟩:=hrel
   by_cases aE:k<L - 1
   rotate_left
   . obtain rfl:k=L - 1:=by omega
     go_wp2_with fail;go_ret;exact ⟨g,rfl,l.o,r.o⟩
   have aW:(k:Int)<((L - 1:Nat):Int):=by omega
   have M:=ze (Z.o.below r.o);have o1:=aR.o _ r.o k aE;have t2:=M.o.cell2;have t1:=M.o.cell1;have ar:=HO.o k aE;have aM:IntKind.i64.wrap ((T.other k:Int) - 2*(F.nn:Int))=(T.other k:Int) - 2*(F.nn:Int):=by rw [IntKind.wrap_i64];omega
   by_cases aq:2*F.nn<=T.other k/\T.other k<2*F.nn+m
   rotate_left
   . obtain ⟨d,hd⟩:∃ d:Int,(T.other k:Int) - 2*(F.nn:Int)=d:=⟨_,rfl⟩
     have R:Hid (xo wr g m m (wtN T F.nn m sc z (k+1))):=l.o.fewer (fun j hj=>⟨hj,by
      show (if T.other k=2*F.nn+j then _ else _)=_
      rw [if_neg (by omega)]⟩)
     rw [hd] at aM;clear l
     by_cases h0:d ≥ 0
     . have d1:decide (d ≥ 0)=true:=decide_eq_true h0
       have d2:decide (d<(m:Int))=false:=decide_eq_false (by omega);clear aq ar h0;go_wp2_with fail;go_roundw
       case rel=>exact ⟨k+1,by omega,by go_num,R,u,r⟩
       case measure=>simp [intOf];omega
     have d1:decide (d ≥ 0)=false:=decide_eq_false h0
     clear aq ar h0;go_wp2_with fail;go_roundw
     case rel=>exact ⟨k+1,by omega,by go_num,R,u,r⟩
     case measure=>simp [intOf];omega
   obtain ⟨i,hi⟩:∃ i,i=T.other k - 2*F.nn:=⟨_,rfl⟩
   have ei:(T.other k:Int) - 2*(F.nn:Int)=(i:Int):=by omega
   have ah:i<m:=by omega
   have HI:Hid (T.other k=2*F.nn+i):=by show T.other k=_;omega
   have d1:decide ((i:Int) ≥ 0)=true:=by rw [decide_eq_true_iff];omega
   have d2:decide ((i:Int)<(m:Int))=true:=by rw [decide_eq_true_iff];omega
   have aS:(i:Int)<(m:Int):=by omega
   rw [ei] at aM;obtain ⟨K,I⟩:∃ K,K=k+1:=⟨_,rfl⟩;have eK:(k:Int)+1=(K:Int):=by omega
   have a4:(K:Int)<(L:Int):=by omega
   have aX:IntKind.i64.wrap (K:Int)=(K:Int):=by rw [IntKind.wrap_i64];omega
   have a5:(0:Int)<=(K:Int):=by omega
   have aJ:K<L:=by omega
   have HK:=ze I;clear hi aq ar I
   go_upto_region 13 with fail
   obtain ⟨ax,aA,an,ac,ag,a0,a1,a2,ha⟩:=M.o.mat.at_ (i:=m) (k:=K) (by omega) aJ;have ao:=aP.o.below r.o;obtain ⟨bx,bA,bn,bc,bg,b0,b1,b2,aD⟩:=ao.2 i ah;obtain ⟨dx,dA,dn,dc,dg,af,aF⟩:=M.o.blk;have d4:wr.cell? ⟨F.gt,4,none⟩=some (.int .i64 dx):=by rw [af.cell];rfl
   have d5:wr.cell? ⟨F.gt,5,none⟩=some (.slice dA dn dc):=by rw [af.cell];rfl
   have d6:wr.cell? ⟨F.gt,6,none⟩=some (.bool dg):=by rw [af.cell];rfl
   obtain ⟨vx,vA,vn,vc,vg,ae,aG⟩:=u.o;have Y:=ae.cell 0;have q1:=ae.cell 1;have X:=ae.cell 2;simp at Y q1 X;have C:=af.lt;have E:=(M.o.mat.rows m (by omega)).2.lt;have G:=ao.1;have D:=ae.lt;have HA:=ze ha;have az:=ze aD;have ay:=ze aF;have aI:=ze aG;have N1:=ze (HF.o.cell m K (Nat.le_refl _) aJ);have N2:=ze (aV.o i ah);have aB:Hid (T.den*z≠0):=by have:=HF.o.den;exact Int.mul_ne_zero (by omega) aQ.o
   clear ha aD aF aG af ae ao t1 t2 o1;refine zt (S:=fun w' =>Hid (Below wr.heap.size wr w')/\w'.cell? ⟨F.g m,K*3,none⟩=some (.int .i64 ax)/\w'.cell? ⟨F.g m,K*3+1,none⟩=some (.slice aA an ac)/\w'.cell? ⟨F.g m,K*3+2,none⟩=some (.bool ag)/\w'.cell? ⟨gs,i*3,none⟩=some (.int .i64 bx)/\w'.cell? ⟨gs,i*3+1,none⟩=some (.slice bA bn bc)/\w'.cell? ⟨gs,i*3+2,none⟩=some (.bool bg)/\w'.cell? ⟨F.gt,4,none⟩=some (.int .i64 dx)/\w'.cell? ⟨F.gt,5,none⟩=some (.slice dA dn dc)/\w'.cell? ⟨F.gt,6,none⟩=some (.bool dg)/\w'.cell? ⟨gv,0,none⟩=some (.int .i64 vx)/\w'.cell? ⟨gv,1,none⟩=some (.slice vA vn vc)/\w'.cell? ⟨gv,2,none⟩=some (.bool vg)) 7 14 21 rfl (by kernel_rfl) (by kernel_rfl) (by kernel_rfl) rfl (zl (zu wr) (fun hB=>⟨zh hB E a0,zh hB E a1,zh hB E a2,zh hB G b0,zh hB G b1,zh hB G b2,zh hB C d4,zh hB C d5,zh hB C d6,zh hB D Y,zh hB D q1,zh hB D X⟩)) ?_ (fun hHeld=>?_)
   . intro _ _ _ _ _ h9;exact h9
   simp only [List.take_succ_cons,List.take_zero]
   iterate 7 refine ye ?_
   refine zU ?_;refine HH.tk 8 ?_;refine HH.tk 9 ?_;refine HH.tk 10 ?_;refine HH.tk 11 ?_;refine HH.tk 13 ?_;refine HH.tk 14 ?_;refine HH.tk 15 ?_;refine HH.tk 16 ?_;refine HH.tk 17 ?_;refine HH.rd 7 (fun K I=>?_)
   go_simp
   go_at_call 72;refine (yY _ _ _ (HA.o.below hHeld.1.out)).mono ?_;rintro e w2 ⟨v1,rfl,N,J⟩;have aK:=ze N;clear N;have O:=hHeld;clear hHeld;refine I.out _ _ (zl (zr J O.1) (fun hB=>⟨zh hB E a0,zh hB E a1,zh hB E a2,zh hB G b0,zh hB G b1,zh hB G b2,zh hB C d4,zh hB C d5,zh hB C d6,zh hB D Y,zh hB D q1,zh hB D X⟩)) (fun hHeld=>?_);clear O I K
   try simp only [Act.put,xST]
   clear J;refine HH.rd 12 (fun K I=>?_)
   go_simp
   go_at_call 55;refine (vq _ _ _ _ _ aK.o (az.o.below hHeld.1.out) (N1.o.neg.le2 (by omega)) (N2.o.le2 (by omega))).mono ?_;rintro e w3 ⟨v2,rfl,N,J⟩;have ak:=ze N;clear N aK;have O:=hHeld;clear hHeld;refine I.out _ _ (zl (zr J O.1) (fun hB=>⟨zh hB E a0,zh hB E a1,zh hB E a2,zh hB G b0,zh hB G b1,zh hB G b2,zh hB C d4,zh hB C d5,zh hB C d6,zh hB D Y,zh hB D q1,zh hB D X⟩)) (fun hHeld=>?_);clear O I K
   try simp only [Act.put,xST]
   clear J;refine HH.rd 18 (fun K I=>?_)
   go_simp
   go_at_call 55;refine (vq _ _ _ _ _ (ay.o.below hHeld.1.out) (aI.o.below hHeld.1.out) (HF.o.fden.le2 (by omega)) (HZ.o.le2 (by omega))).mono ?_;rintro e w4 ⟨v3,rfl,N,J⟩;have aH:=ze N;replace ak:=ze (ak.o.below J);clear N;have O:=hHeld;clear hHeld;refine I.out _ _ (zl (zr J O.1) (fun hB=>⟨zh hB E a0,zh hB E a1,zh hB E a2,zh hB G b0,zh hB G b1,zh hB G b2,zh hB C d4,zh hB C d5,zh hB C d6,zh hB D Y,zh hB D q1,zh hB D X⟩)) (fun hHeld=>?_);clear O I K
   try simp only [Act.put,xST]
   clear J;refine HH.rd 19 (fun K I=>?_)
   go_simp
   go_at_call 54;refine (Yp _ _ _ _ _ ak.o aH.o aB.o (XG N1.o.neg N2.o (by omega)) (XG HF.o.fden HZ.o (by omega))).mono ?_;rintro e w5 ⟨v4,rfl,N,J⟩;have ap:=ze N;clear N ak aH;have O:=hHeld;clear hHeld;refine I.out _ _ (zl (zr J O.1) (fun hB=>⟨zh hB E a0,zh hB E a1,zh hB E a2,zh hB G b0,zh hB G b1,zh hB G b2,zh hB C d4,zh hB C d5,zh hB C d6,zh hB D Y,zh hB D q1,zh hB D X⟩)) (fun hHeld=>?_);clear O I K
   try simp only [Act.put,xST]
   clear J;refine HH.tk 20 ?_;have aj:=(hHeld.1).out;replace l:=ze (xo.below l.o aj);replace u:=ze (Yo.below u.o aj);replace r:=eb_ r aj;clear aj hHeld;refine HH.done (by kernel_rfl) ?_;simp only [List.drop_succ_cons,List.drop_zero];clear HA az ay aI N1 N2 a0 a1 a2 b0 b1 b2 d4 d5 d6 Y q1 X C E G D M aB;obtain ⟨x,A,n,c,s,y,B,n',c',t,rfl,ai,am⟩:=ap.o;obtain ⟨u0,u1,u2,u3,u4,u5,s0,s1,s2,s3,s4,s5⟩:=l.o.slots ah;have f0:=l.o.frozen (i*6);have f1:=l.o.frozen (i*6+1);have f2:=l.o.frozen (i*6+2);have f3:=l.o.frozen (i*6+3);have f4:=l.o.frozen (i*6+4);have f5:=l.o.frozen (i*6+5);have V:=Vn (w:=w5) (g:=g) (k:=i) (x:=x) (s:=s) (A:=A) (n:=n) (c:=c) (y:=y) (t:=t) (B:=B) (n' :=n') (c' :=c')
   have R:Hid (xo (World.ratAt w5 g i x A n c s y B n' c' t) g m m (wtN T F.nn m sc z (k+1))):=l.o.set ah ap.o (fun j hj=>by
    have hk:=HK.o;subst hk;have hi:=HI.o
    show (j=i/\(if T.other k=2*F.nn+j then _ else _)=_)\/(j≠i/\j<m/\(if T.other k=2*F.nn+j then _ else _)=_)
    by_cases e:j=i
    . exact .inl ⟨e,by subst e;rw [if_pos hi]⟩
    . exact .inr ⟨e,hj,by rw [if_neg (by omega)]⟩)
   have aa:=ze (u.o.chg V (by have:=ab.o.2;omega) (fun b e=>by subst e;exact l.o.noDig));have ad:=ze (zaf r.o V ab.o.1);clear l u r ap V ai am;go_wp2_with fail;go_roundw
   case rel=>first | exact ⟨k+1,by omega,by go_num,R,aa,ad⟩ | ((repeat apply Exists.intro);exact ⟨⟨k+1,by omega,by go_num,R,aa,ad⟩,rfl⟩)
   case measure=>simp [intOf];omega
def vG (f:Nat->Nat) (u:Int):Nat->Option Nat
 | 0=>none
 | n+1=>match vG f u n with
   | some j=>some j
   | none=>if (f n:Int)=u then some n else none
theorem Vl {f:Nat->Nat} {u:Int}:∀ {n:Nat},(∀ j,j<n->(f j:Int)≠u)->vG f u n=none
 | 0,_=>rfl
 | n+1,h=>by
   unfold vG;rw [Vl (n:=n) (fun j hj=>h j (by omega))];exact if_neg (h n (by omega))
theorem zb0 {f:Nat->Nat} {u:Int} {i:Nat} (hi:(f i:Int)=u) (hl:∀ j,j<i->(f j:Int)≠u):∀ {n:Nat},i<n->vG f u n=some i
 | 0,h=>by omega
 | n+1,h=>by
   unfold vG
   by_cases e:i=n
   rotate_left
   . rw [zb0 hi hl (n:=n) (by omega)]
   subst e
   rw [Vl hl];exact if_pos hi
def IxR (w0:World) (f:Nat->Nat) (u:Int) (n:Nat) (iv:Value) (wr:World):Prop:=∃ i:Nat,i<=n/\iv= .int .i64 i/\Hid (∀ j,j<i->(f j:Int)≠u)/\w0=wr
theorem zet (g n c:Nat) (f:Nat->Nat) (u:Int) (w:World) (hn:n<=1000000) (h:∀ i,i<n->w.cell? ⟨g,i,none⟩=some (.int .i64 (f i:Nat))):
 Calls Tryz.prog 112 #[.slice (some ⟨g,0,none⟩) n c,.int .i64 u] w (zbj w (.int .i64 (ziz (vG f u n)))):=by
 have HH:=ze h
 clear h
 go_enter func112,ntmps112
 go_wp2_with fail
 go_loopw [8] (IxR w f u n) (fun iv _=>n - (intOf iv).toNat)
 case atStart=>exact ⟨0,Nat.zero_le _,rfl,(fun j hj=>by omega),rfl⟩
 case round=>
  obtain ⟨i,hi,rfl,l,rfl⟩:=hrel
  by_cases r:i<n
  rotate_left
  . obtain rfl:n=i:=by omega
    have m:=ze (Vl (f:=f) (u:=u) l.o);go_wp2_with fail;go_ret;exact ⟨by rw [m.o];rfl,rfl⟩
  have z:(i:Int)<(n:Int):=by omega
  have c1:=HH.out i r
  by_cases b:u=(f i:Int)
  . have d1:(u == (f i:Int))=true:=by rw [beq_iff_eq];exact b
    have m:=ze (zb0 (f:=f) (u:=u) b.symm l.o r);clear b;go_wp2_with fail;go_ret;exact ⟨by rw [m.o];rfl,rfl⟩
  have d1:(u == (f i:Int))=false:=by rw [beq_eq_false_iff_ne];exact b
  have y:Hid (∀ j,j<i+1->(f j:Int)≠u):=fun j hj=>by
   by_cases e:j=i
   . subst e;exact fun h=>b h.symm
   exact l.o j (by omega)
  clear b l;go_wp2_with fail;go_round
  case rel=>exact ⟨i+1,by omega,by go_num,y,rfl⟩
  case measure=>simp [intOf];omega
theorem zj9 (base m L:Nat) (F:ya) (T:yE) (vn:Value) (z:Int) (w:World) (hT:yi base m L F w T) (hn:yb w vn z) (hz:len 4294967296 z.natAbs<=33554432) (hd:Fit T.den) (hd0:T.den≠0):
 Calls Tryz.prog 117 #[.pointer (some ⟨F.gt,0,none⟩),vn] w (zdv w (Rat.divInt z T.den)):=by
 obtain ⟨E,J,k2,c2,s2,rfl,_,_,_⟩:=hn.form
 obtain ⟨C,aa⟩:∃ x,x=(w.alloc (.cells #[.int .i64 E,.slice J k2 c2,.bool s2] 53)).alloc (.cells #[.int .i64 0,.slice none 0 0,.bool false,.int .i64 0,.slice none 0 0,.bool false] 55):=⟨_,rfl⟩
 have I:=ext (zf w (.cells #[.int .i64 E,.slice J k2 c2,.bool s2] 53)) (zf _ (.cells #[.int .i64 0,.slice none 0 0,.bool false,.int .i64 0,.slice none 0 0,.bool false] 55))
 have u:=(Blk.new w 53 #[.int .i64 E,.slice J k2 c2,.bool s2]).alloc (.cells #[.int .i64 0,.slice none 0 0,.bool false,.int .i64 0,.slice none 0 0,.bool false] 55)
 have U:=Blk.new (w.alloc (.cells #[.int .i64 E,.slice J k2 c2,.bool s2] 53)) 55 #[.int .i64 0,.slice none 0 0,.bool false,.int .i64 0,.slice none 0 0,.bool false]
 simp only [World.size_alloc] at U
 rw [<- aa] at I u U
 have Y:=ze I
 have Q:=ze (hn.below I)
 have HT:=hT.below I
 have b:=ze U
 obtain ⟨⟨dx,dA,dn,dc,dg,G,af⟩,_⟩:=HT
 have M:=ze af
 have d4:C.cell? ⟨F.gt,4,none⟩=some (.int .i64 dx):=by rw [G.cell];rfl
 have Z:C.cell? ⟨F.gt,5,none⟩=some (.slice dA dn dc):=by rw [G.cell];rfl
 have d6:C.cell? ⟨F.gt,6,none⟩=some (.bool dg):=by rw [G.cell];rfl
 have r:=G.lt
 have O:=u.cell 0
 have R:=u.cell 1
 have N:=u.cell 2
 simp at O R N
 have j:=u.lt
 have HZ:=ze hz
 have aj:=ze hd
 have ag:=ze hd0
 clear hn I u U G af hT hz hd hd0
 go_enter func117,ntmps117
 go_upto_region 1 with fail
 rw [<- aa]
 clear aa
 refine zt (S:=fun w' =>Hid (Below C.heap.size C w')/\w'.cell? ⟨w.heap.size,0,none⟩=some (.int .i64 E)/\w'.cell? ⟨w.heap.size,1,none⟩=some (.slice J k2 c2)/\w'.cell? ⟨w.heap.size,2,none⟩=some (.bool s2)/\w'.cell? ⟨F.gt,4,none⟩=some (.int .i64 dx)/\w'.cell? ⟨F.gt,5,none⟩=some (.slice dA dn dc)/\w'.cell? ⟨F.gt,6,none⟩=some (.bool dg)) 5 1 6 rfl (by kernel_rfl) (by kernel_rfl) (by kernel_rfl) rfl (zl (zu C) (fun hB=>⟨zh hB j O,zh hB j R,zh hB j N,zh hB r d4,zh hB r Z,zh hB r d6⟩)) ?_ (fun hHeld=>?_)
 . intro _ _ _ _ _ h9;exact h9
 simp only [List.take_succ_cons,List.take_zero]
 iterate 5 refine ye ?_
 refine zU ?_
 refine HH.rd 5 (fun K hK=>?_)
 go_simp
 go_at_call 54
 refine (Yp _ _ _ _ _ (Q.o.below hHeld.1.out) (M.o.below hHeld.1.out) ag.o HZ.o (Nat.le_trans aj.o (by omega))).mono ?_
 rintro e w1 ⟨v,rfl,hv,ab⟩
 have HV:=ze hv
 clear hv
 have ad:=hHeld
 clear hHeld
 refine hK.out _ _ (zl (zr ab ad.1) (fun hB=>⟨zh hB j O,zh hB j R,zh hB j N,zh hB r d4,zh hB r Z,zh hB r d6⟩)) (fun hHeld=>?_)
 clear ad hK K
 try simp only [Act.put,xST]
 clear ab
 have D:=(hHeld.1).out
 try clear e0 e1 e2 e3 e4 e5 eL
 replace Y:=eb_ Y D
 replace Q:=ze (Q.o.below D)
 replace M:=ze (M.o.below D)
 replace b:=kb_ b D
 clear D hHeld
 refine HH.done (by kernel_rfl) ?_
 simp only [List.drop_succ_cons,List.drop_zero]
 obtain ⟨e0,e1,e2,e3,e4,e5,eL⟩:=bkc6 b.o
 obtain ⟨x,A,k,c,s,y,B,k',c',t,rfl,ae,ac⟩:=HV.o
 have f0:=b.o.frozen 0
 have f1:=b.o.frozen 1
 have f2:=b.o.frozen 2
 have f3:=b.o.frozen 3
 have f4:=b.o.frozen 4
 have f5:=b.o.frozen 5
 have l:=yx (x:=x) (A:=A) (k:=k) (c:=c) (s:=s) (y:=y) (B:=B) (k' :=k') (c' :=c') (t:=t) b.o
 have q0:=l.cell 0
 have V:=l.cell 1
 have q2:=l.cell 2
 have q3:=l.cell 3
 have X:=l.cell 4
 have q5:=l.cell 5
 simp only [World.rat] at q0 V q2 q3 X q5
 simp at q0 V q2 q3 X q5
 have ai:=ze (yz (x:=x) (A:=A) (k:=k) (c:=c) (s:=s) (y:=y) (B:=B) (k' :=k') (c' :=c') (t:=t) ae b.o)
 have ah:=ze (yz (x:=x) (A:=A) (k:=k) (c:=c) (s:=s) (y:=y) (B:=B) (k' :=k') (c' :=c') (t:=t) ac b.o)
 have ak:Hid (Below w.heap.size w (World.rat w1 (w.heap.size+1) x A k c s y B k' c' t)):=yu Y.o (by omega)
 clear ae ac l HV Q M O R N d4 Z d6 r j
 go_wp2_with fail
 refine bodyPost_ret (v:=.agg #[.int .i64 x,.slice A k c,.bool s,.int .i64 y,.slice B k' c',.bool t]) (by simp [results,results117,go_sem,q0,V,q2,q3,X,q5]) rfl ?_
 exact ⟨_,rfl,⟨_,_,_,_,_,_,_,_,_,_,rfl,ai.o,ah.o⟩,ak.o⟩
theorem yi.chgRow {base m L:Nat} {F:ya} {w w' :World} {T:yE} {gl n:Nat} {f:Nat->Int} (h:yi base m L F w T) (hr:ve w gl L n f) (hc:Chg (· =gl) w w') (hne:∀ i,i<=m->F.g i≠gl):yi base m L F w' T:=by
 obtain ⟨⟨x,A,k,c,ng,r,D⟩,l,u,y,B,C,z⟩:=h
 obtain ⟨cs,hb⟩:=hr.heap
 have hS:∀ b,b=gl->zZ w b:=fun b e=>by subst e;exact hr.noDig
 have j:∀ e v size k xs,e≠53->Zm w base e size v k xs->∀ b,v.ownBlock=some b->¬ b=gl:=fun e v size k xs he ho b hb2 e2=>by
  obtain ⟨E,k2⟩:=ho.heap hb2
  exact yX hb k2 (fun e3=>he e3.symm) e2.symm
 exact ⟨⟨x,A,k,c,ng,hc.blk r (yX r hb (by decide)),hc.num D hS⟩,l.chg hc (fun i hi=>hne i (by omega)) (j _ _ _ _ _ (by decide) l.own) hS,
  u.chg hc (j _ _ _ _ _ (by decide) u),y.chg hc (j _ _ _ _ _ (by decide) y),B,C,z⟩
theorem zrh {S:Nat->Prop} {w w1 w2:World} (h:Chg S w w1) (hb:Below w1.heap.size w1 w2):Chg S w w2:=h.trans (Chg.of_below (S:=S) hb) (fun _ _ h=>h)
theorem zrq {S:Nat->Prop} {w w1 w2:World} (h:Chg S w w1) (hb:Below w1.heap.size w1 w2):Chg S w w2:=h.trans (Chg.of_below (S:=S) hb) (fun _ _ h=>h)
theorem ze7 {f:Nat->Nat} {u:Int}:∀ (n i:Nat),vG f u n=some i->i<n:=by
 intro n
 induction n with
 | zero=>intro i h;cases h
 | succ n ih=>
   intro i h;unfold vG at h
   split at h
   . next j hj=>injection h with h;subst h;have:=ih _ hj;omega
   split at h
   . injection h with h;omega
   cases h
def XZ (T:yE) (m L:Nat) (u z:Int) (k:Nat):Int:=match vG T.basic u m with
 | some i=>T.cell i k*z
 | none=>if (k:Int)=ziz (vG T.other u (L - 1))+1 then T.den*z else 0
def zxf (T:yE) (m L gl:Nat) (f:Nat->Int) (u z:Int) (w:World) (e:Ending) (w' :World):Prop:=e= .returned (.tuple #[])/\ve w' gl L L (fun k=>f k+XZ T m L u z k)/\Chg (· =gl) w w'
def CntR (w0:World) (base m L:Nat) (F:ya) (T:yE) (gl gv i:Nat) (f:Nat->Int) (z:Int) (kv:Value) (wr:World):Prop:=
 ∃ k:Nat,k<=L/\kv= .int .i64 k/\Hid (ve wr gl L L (fun j=>if j<k then f j+T.cell i j*z else f j))/\Hid (yi base m L F wr T)/\Hid (Yo wr gv z)/\Hid (Chg (· =gl) w0 wr)
theorem zbz (base m L:Nat) (F:ya) (T:yE) (gl:Nat) (f:Nat->Int) (u:Int) (vn:Value) (z:Int) (w:World) (hT:yi base m L F w T) (hr:ve w gl L L f) (hn:yb w vn z) (hne:∀ i,i<=m->F.g i≠gl) (hf:T.Fits m L) (hz:Fit z)
 (hl:∀ k,k<L->len 4294967296 (f k).natAbs<=67108864) (hm:m<=100000) (hL:L<=100000) (hm0:0<m) (hu:vG T.basic u m=none->vG T.other u (L - 1)≠none):
 Calls Tryz.prog 113 #[.pointer (some ⟨F.gt,0,none⟩),.slice (some ⟨gl,0,none⟩) L L,.int .i64 u,vn] w (zxf T m L gl f u z w):=by
 obtain ⟨x2,A2,k2,c2,s2,rfl,_,_,_⟩:=hn.form
 obtain ⟨U,au⟩:∃ x,x=w.alloc (.cells #[.int .i64 x2,.slice A2 k2 c2,.bool s2] 53):=⟨_,rfl⟩
 have hx:=zf w (.cells #[.int .i64 x2,.slice A2 k2 c2,.bool s2] 53)
 have ar:=Blk.new w 53 #[.int .i64 x2,.slice A2 k2 c2,.bool s2]
 rw [<- au] at hx ar
 have G:Hid (Yo U w.heap.size z):=⟨_,_,_,_,_,ar,hn.below hx⟩
 have aH:=ze hr.lt
 have B:=ze (hT.below hx)
 have l:=ze (hr.below hx)
 have E:Hid (Chg (· =gl) w U):=Chg.of_below hx
 have aM:=ze hne
 have HF:=ze hf
 have HZ:=ze hz
 have HL:=ze hl
 have HU:=ze hu
 clear hn hx ar hT hr hne hf hz hl hu
 obtain ⟨gb,cb,eb,aN,aB⟩:=B.o.basics hm0
 have t7:=B.o.cell7
 rw [eb] at t7
 have af:=zet gb m cb T.basic u U (by omega) aB
 have ae:=ze af
 clear af aB
 go_enter func113,ntmps113
 go_upto_region 1 with fail
 rw [<- au]
 clear au
 generalize w.heap.size=gv at G aH |-
 go_wp2_with fail
 refine ae.o.mono ?_
 rintro e w1 ⟨rfl,rfl⟩
 cases hfi:vG T.basic u m with
 | some i=>
   have aR:i<m:=ze7 _ _ hfi;have d1:decide ((i:Int) ≥ 0)=true:=by rw [decide_eq_true_iff];omega
   have d3:ziz (some i)=(i:Int):=rfl;have aq:=ze hfi;rw [d3];clear hfi d3 ae t7;have aQ:(0:Int)<=(L:Int):=by omega
   go_wp2_with fail
   go_loopw [21] (CntR w base m L F T gl gv i f z) (fun kv _=>L - (intOf kv).toNat)
   case atStart=>exact ⟨0,Nat.zero_le _,rfl,l.o.fewer (fun k hk=>⟨hk,by simp⟩),B,G,E⟩
   case round=>
    clear l B G E;obtain ⟨k,hk,rfl,l,B,G,E⟩:=hrel
    by_cases Z:k<L
    rotate_left
    . obtain rfl:L=k:=by omega
      go_wp2_with fail
      go_end0
      refine ⟨rfl,l.o.fewer (fun j hj=>⟨hj,?_⟩),E.o⟩;unfold XZ;rw [aq.o];simp only [if_pos hj]
    have aI:(k:Int)<(L:Int):=by omega
    have aP:(i:Int)<(m:Int)+1:=by omega
    have t3:=B.o.cell3;have t4:=B.o.mat.cell (i:=i) (by omega);obtain ⟨ax,aA,an,ac,ag,a0,Y,X,ha⟩:=l.o.2 k Z;simp only [Nat.lt_irrefl,if_false] at ha;obtain ⟨bx,bA,bn,bc,bg,b0,b1,b2,az⟩:=B.o.mat.at_ (i:=i) (k:=k) (by omega) Z;obtain ⟨vx,vA,vn,vc,vg,Q,ah⟩:=G.o;have J:=Q.cell 0;have M:=Q.cell 1;have I:=Q.cell 2;simp at J M I;have C:=B.o.lt;have mL:=B.o.mat.lt.2;have y:=l.o.lt;have R:=(B.o.mat.rows i (by omega)).2.lt;have r:=Q.lt;have HA:=ze ha;have ay:=ze az;have ai:=ze ah;have N1:=ze (HF.o.cell i k (by omega) Z);clear ha az Q ah
    go_upto_region 6 with fail
    refine zt (S:=fun w' =>Hid (Below wr.heap.size wr w')/\w'.cell? ⟨F.gt,3,none⟩=some (.slice (some ⟨F.gm,0,none⟩) (m+1) F.cm)/\w'.cell? ⟨F.gm,i,none⟩=some (.slice (some ⟨F.g i,0,none⟩) L L)/\w'.cell? ⟨gl,k*3,none⟩=some (.int .i64 ax)/\w'.cell? ⟨gl,k*3+1,none⟩=some (.slice aA an ac)/\w'.cell? ⟨gl,k*3+2,none⟩=some (.bool ag)/\w'.cell? ⟨F.g i,k*3,none⟩=some (.int .i64 bx)/\w'.cell? ⟨F.g i,k*3+1,none⟩=some (.slice bA bn bc)/\w'.cell? ⟨F.g i,k*3+2,none⟩=some (.bool bg)/\w'.cell? ⟨gv,0,none⟩=some (.int .i64 vx)/\w'.cell? ⟨gv,1,none⟩=some (.slice vA vn vc)/\w'.cell? ⟨gv,2,none⟩=some (.bool vg)) 17 3 20 rfl (by kernel_rfl) (by kernel_rfl) (by kernel_rfl) rfl (zl (zu wr) (fun hB=>⟨zh hB C t3,zh hB mL t4,zh hB y a0,zh hB y Y,zh hB y X,zh hB R b0,zh hB R b1,zh hB R b2,zh hB r J,zh hB r M,zh hB r I⟩)) ?_ (fun hHeld=>?_)
    . intro _ _ _ _ _ h9;exact h9
    simp only [List.take_succ_cons,List.take_zero]
    iterate 17 refine ye ?_
    refine zU ?_;refine HH.rd 17 (fun K hK=>?_)
    go_simp
    go_at_call 55;refine (vq _ _ _ _ _ (ay.o.below hHeld.1.out) (ai.o.below hHeld.1.out) (N1.o.le2 (by omega)) (HZ.o.le2 (by omega))).mono ?_;rintro e w2 ⟨v1,rfl,N,D⟩;have aj:=ze N;have aK:=ze D;clear N;have O:=hHeld;clear hHeld;refine hK.out _ _ (zl (zr D O.1) (fun hB=>⟨zh hB C t3,zh hB mL t4,zh hB y a0,zh hB y Y,zh hB y X,zh hB R b0,zh hB R b1,zh hB R b2,zh hB r J,zh hB r M,zh hB r I⟩)) (fun hHeld=>?_);clear O hK K
    try simp only [Act.put,xST]
    clear D;refine HH.rd 18 (fun K hK=>?_)
    go_simp
    go_at_call 56;refine (zgn _ _ _ _ _ (HA.o.below hHeld.1.out) aj.o (HL.o k Z) (XG N1.o HZ.o (by omega))).mono ?_;rintro e w3 ⟨v2,rfl,N,D⟩;have ad:=ze N;clear N aj;have aF:=ze (zr D hHeld.1);have O:=hHeld;clear hHeld;refine hK.out _ _ (zl (zr D O.1) (fun hB=>⟨zh hB C t3,zh hB mL t4,zh hB y a0,zh hB y Y,zh hB y X,zh hB R b0,zh hB R b1,zh hB R b2,zh hB r J,zh hB r M,zh hB r I⟩)) (fun hHeld=>?_);clear O hK K
    try simp only [Act.put,xST]
    clear D;refine HH.tk 19 ?_;have aa:=(hHeld.1).out;replace l:=ze (ve.below l.o aa);replace B:=ze (yi.below B.o aa);replace G:=ze (Yo.below G.o aa);clear aa hHeld;refine HH.done (by kernel_rfl) ?_;simp only [List.drop_succ_cons,List.drop_zero];replace E:=ze (zrh E.o aF.o.out);clear HA ay ai N1 a0 Y X b0 b1 b2 J M I C mL y R r t3 t4 aK aF;obtain ⟨sx,sA,sn,sc,sg,rfl,_,_,_⟩:=ad.o.form;obtain ⟨u0,u1,u2,s0,s1,s2⟩:=l.o.slots Z;have z0:=l.o.frozen (k*3);have z1:=l.o.frozen (k*3+1);have z2:=l.o.frozen (k*3+2);have ab:=Zu (w:=w3) (g:=gl) (k:=k) (x:=sx) (A:=sA) (n:=sn) (c:=sc) (ng:=sg)
    have ao:Hid (ve (World.numAt w3 gl k sx sA sn sc sg) gl L L (fun j=>if j<k+1 then f j+T.cell i j*z else f j)):=l.o.set Z ad.o (fun j hj=>by
     by_cases e:j=k
     . exact .inl ⟨e,by subst e;rw [if_pos (by omega)]⟩
     . refine .inr ⟨e,hj,?_⟩
       by_cases h:j<k
       . rw [if_pos h,if_pos (by omega)]
       . rw [if_neg h,if_neg (by omega)])
    have aE:=ze (B.o.chgRow l.o ab aM.o);have av:gv≠gl:=by have:=aH.o;omega
    have aC:=ze (G.o.chg ab av (fun b e=>by subst e;exact l.o.noDig));have ap:Hid (Chg (· =gl) w (World.numAt w3 gl k sx sA sn sc sg)):=E.o.trans ab (fun _ _ h=>h);clear l B G E ad ab av;go_wp2_with fail;go_roundw
    case rel=>first | exact ⟨k+1,by omega,by go_num,ao,aE,aC,ap⟩ | ((repeat apply Exists.intro);exact ⟨⟨k+1,by omega,by go_num,ao,aE,aC,ap⟩,rfl⟩)
    case measure=>simp [intOf];omega
 | none=>
   obtain ⟨V,am⟩:=Option.ne_none_iff_exists'.1 (HU.o hfi);have Z:V<L - 1:=ze7 _ _ am;have d1:decide (ziz none ≥ 0)=false:=by decide
   have d3:ziz none= -1:=rfl;have d4:ziz (some V)=(V:Int):=rfl;obtain ⟨go,co,eo,aO,aG⟩:=B.o.others;have t8:=B.o.cell8;rw [eo] at t8;have af:=zet go (L - 1) co T.other u U (by omega) aG;rw [am,d4] at af;have aq:=ze hfi;have aJ:=ze am;have e1:IntKind.i64.wrap ((V:Int)+1)=(V:Int)+1:=by rw [IntKind.wrap_i64];omega
   clear hfi am ae t7 aG d4;have ae:=ze af;clear af;go_wp2_with fail;refine ae.o.mono ?_;rintro e w1 ⟨rfl,rfl⟩;obtain ⟨k,hk⟩:∃ k,k=V+1:=⟨_,rfl⟩;have ek:(V:Int)+1=(k:Int):=by omega
   have al:k<L:=by omega
   have HK:=ze hk;clear hk t8 Z ae;have aI:(k:Int)<(L:Int):=by omega
   have aS:(0:Int)<=(k:Int):=by omega
   obtain ⟨ax,aA,an,ac,ag,a0,Y,X,ha⟩:=l.o.2 k al;obtain ⟨dx,dA,dn,dc,dg,ak,aD⟩:=B.o.blk;have d4:U.cell? ⟨F.gt,4,none⟩=some (.int .i64 dx):=by rw [ak.cell];rfl
   have d5:U.cell? ⟨F.gt,5,none⟩=some (.slice dA dn dc):=by rw [ak.cell];rfl
   have d6:U.cell? ⟨F.gt,6,none⟩=some (.bool dg):=by rw [ak.cell];rfl
   obtain ⟨vx,vA,vn,vc,vg,Q,ah⟩:=G.o;have J:=Q.cell 0;have M:=Q.cell 1;have I:=Q.cell 2;simp at J M I;have C:=ak.lt;have y:=l.o.lt;have r:=Q.lt;have HA:=ze ha;have aw:=ze aD;have ai:=ze ah;clear ha ak aD Q ah
   go_upto_region 9 with fail
   refine zt (S:=fun w' =>Hid (Below U.heap.size U w')/\w'.cell? ⟨gl,k*3,none⟩=some (.int .i64 ax)/\w'.cell? ⟨gl,k*3+1,none⟩=some (.slice aA an ac)/\w'.cell? ⟨gl,k*3+2,none⟩=some (.bool ag)/\w'.cell? ⟨F.gt,4,none⟩=some (.int .i64 dx)/\w'.cell? ⟨F.gt,5,none⟩=some (.slice dA dn dc)/\w'.cell? ⟨F.gt,6,none⟩=some (.bool dg)/\w'.cell? ⟨gv,0,none⟩=some (.int .i64 vx)/\w'.cell? ⟨gv,1,none⟩=some (.slice vA vn vc)/\w'.cell? ⟨gv,2,none⟩=some (.bool vg)) 11 3 14 rfl (by kernel_rfl) (by kernel_rfl) (by kernel_rfl) rfl (zl (zu U) (fun hB=>⟨zh hB y a0,zh hB y Y,zh hB y X,zh hB C d4,zh hB C d5,zh hB C d6,zh hB r J,zh hB r M,zh hB r I⟩)) ?_ (fun hHeld=>?_)
   . intro _ _ _ _ _ h9;exact h9
   simp only [List.take_succ_cons,List.take_zero]
   iterate 11 refine ye ?_
   refine zU ?_;refine HH.rd 11 (fun K hK=>?_)
   go_simp
   go_at_call 55;refine (vq _ _ _ _ _ (aw.o.below hHeld.1.out) (ai.o.below hHeld.1.out) (HF.o.fden.le2 (by omega)) (HZ.o.le2 (by omega))).mono ?_;rintro e w2 ⟨v1,rfl,N,D⟩;have aj:=ze N;clear N;have O:=hHeld;clear hHeld;refine hK.out _ _ (zl (zr D O.1) (fun hB=>⟨zh hB y a0,zh hB y Y,zh hB y X,zh hB C d4,zh hB C d5,zh hB C d6,zh hB r J,zh hB r M,zh hB r I⟩)) (fun hHeld=>?_);clear O hK K
   try simp only [Act.put,xST]
   clear D;refine HH.rd 12 (fun K hK=>?_)
   go_simp
   go_at_call 56;refine (zgn _ _ _ _ _ (HA.o.below hHeld.1.out) aj.o (HL.o k al) (XG HF.o.fden HZ.o (by omega))).mono ?_;rintro e w3 ⟨v2,rfl,N,D⟩;have ad:=ze N;clear N aj;have O:=hHeld;clear hHeld;refine hK.out _ _ (zl (zr D O.1) (fun hB=>⟨zh hB y a0,zh hB y Y,zh hB y X,zh hB C d4,zh hB C d5,zh hB C d6,zh hB r J,zh hB r M,zh hB r I⟩)) (fun hHeld=>?_);clear O hK K
   try simp only [Act.put,xST]
   clear D;refine HH.tk 13 ?_;have aa:=(hHeld.1).out;replace l:=ze (ve.below l.o aa);replace E:=ze (zrq E.o aa);clear aa hHeld;refine HH.done (by kernel_rfl) ?_;simp only [List.drop_succ_cons,List.drop_zero];clear HA aw ai a0 Y X d4 d5 d6 J M I C y r B G;obtain ⟨sx,sA,sn,sc,sg,rfl,_,_,_⟩:=ad.o.form;obtain ⟨u0,u1,u2,s0,s1,s2⟩:=l.o.slots al;have z0:=l.o.frozen (k*3);have z1:=l.o.frozen (k*3+1);have z2:=l.o.frozen (k*3+2);have ab:=Zu (w:=w3) (g:=gl) (k:=k) (x:=sx) (A:=sA) (n:=sn) (c:=sc) (ng:=sg)
   have ao:Hid (ve (World.numAt w3 gl k sx sA sn sc sg) gl L L (fun j=>f j+XZ T m L u z j)):=l.o.set al ad.o (fun j hj=>by
    have hk:=HK.o;have e4:ziz (some V)=(V:Int):=rfl;unfold XZ;rw [aq.o,aJ.o];simp only [e4]
    by_cases e:j=k
    . exact .inl ⟨e,by subst e;rw [if_pos (by omega)]⟩
    . exact .inr ⟨e,hj,by rw [if_neg (by omega),Int.add_zero]⟩)
   have ap:Hid (Chg (· =gl) w (World.numAt w3 gl k sx sA sn sc sg)):=E.o.trans ab (fun _ _ h=>h);clear l E ad ab;go_wp2_with fail
   go_end0
   exact ⟨rfl,ao.o,ap.o⟩
theorem ziv (gt i:Nat) (A:Option Addr) (nn c:Nat) (w:World) (hc:w.cell? ⟨gt,2,none⟩=some (.slice A nn c)) (hn:nn<=100000) (hi:i<=100000):
 Calls Tryz.prog 109 #[.pointer (some ⟨gt,0,none⟩),.int .i64 (i:Nat)] w (zbj w (.int .i64 ((2*nn+i:Nat):Int))):=by
 have b:IntKind.i64.wrap (2*(nn:Int))=2*(nn:Int):=by rw [IntKind.wrap_i64];omega
 have e:IntKind.i64.wrap (2*(nn:Int)+(i:Int))=2*(nn:Int)+(i:Int):=by rw [IntKind.wrap_i64];omega
 go_enter func109,ntmps109
 go_wp2_with fail
 go_ret
 exact ⟨by push_cast;rfl,rfl⟩
theorem zi1:(Tryz.prog.info? 3).map (fun i=>(i.zero,i.size,i.bytes))=some (some (.int .i64 0),1,8):=by kernel_rfl
theorem zgs:(Tryz.prog.info? 119).map (fun i=>(i.zero,i.size,i.bytes))=some (some (.slice none 0 0),1,24):=by kernel_rfl
theorem Tryz.underlying126:Tryz.prog.underlying 126=some (.slice 119):=by kernel_rfl
theorem Tryz.underlyingInts:Tryz.prog.underlying 62=some (.slice 3):=by kernel_rfl
theorem zjt (gt m n c1 c2:Nat) (A1 A2:Option Addr) (w:World) (t1:w.cell? ⟨gt,1,none⟩=some (.slice A1 m c1)) (t2:w.cell? ⟨gt,2,none⟩=some (.slice A2 n c2)) (hm:m<=100000) (hn:n<=100000):
 Calls Tryz.prog 66 #[.pointer (some ⟨gt,0,none⟩)] w (zfq w (.int .i64 ((2*n+m:Nat):Int))):=by
 have b:IntKind.i64.wrap (2*(n:Int))=2*(n:Int):=by rw [IntKind.wrap_i64];omega
 have e:IntKind.i64.wrap (2*(n:Int)+(m:Int))=2*(n:Int)+(m:Int):=by rw [IntKind.wrap_i64];omega
 go_enter func66,ntmps66
 go_upto_region 1 with fail
 go_region
 go_wp2_with fail
 go_ret
 exact ⟨by push_cast;rfl,(zu w).out⟩
def BegR (w0:World) (b gt:Nat) (rv nv:Value) (rows:List zQ) (names:List (List UInt8)) (iv sv:Value) (wr:World):Prop:=
 ∃ (i N:Nat) (g:Nat->Nat) (mv bv sv' :Value),i<=rows.length/\iv= .int .i64 i/\sv=sv' /\Hid (za4 w0 b rows.length gt N rv nv rows names g i i i 0 mv bv (.slice none 0 0) sv' (xT b rv nv mv bv (.slice none 0 0)) wr)
def BegI (w0:World) (b gt N gl gs:Nat) (rv nv tv:Value) (rows:List zQ) (names:List (List UInt8)) (g:Nat->Nat) (i:Nat) (r:zQ) (mv bv sv iv:Value) (wr:World):Prop:=
 ∃ (t:Nat),t<=r.terms.length/\iv= .int .i64 t/\Hid (za4 w0 b rows.length gt N rv nv rows names g i i (i+1) 0 mv bv (.slice none 0 0) sv (xT b rv nv mv bv (.slice none 0 0)) wr)/\Hid (zk wr w0.heap.size tv r.terms)/\
  Hid (ve wr gl (2*names.length+2) (2*names.length+2) (zv0 names (Z3 (qOf r.bound) (xW r)) (xW r) r.terms t))/\Hid (Yo wr gs (xW r))
def BegO (w0:World) (b gt:Nat) (rv nv:Value) (rows:List zQ) (names:List (List UInt8)) (g:Nat->Nat) (mv bv sv iv:Value) (wr:World):Prop:=
 ∃ (k N:Nat) (ov:Value),k<=2*names.length/\iv= .int .i64 k/\Hid (za4 w0 b rows.length gt N rv nv rows names g (rows.length+1) rows.length rows.length k mv bv ov sv (xT b rv nv mv bv ov) wr)
theorem Vo {w:World} {t:TypeId} {v:Value}:∀ (j:Nat) (u:Value),[v][j]?=some u->(w.alloc (.cells #[v] t)).cell? ((⟨w.heap.size,0,none⟩:Addr).add j)=some u:=by
 intro j u hu
 have b:=Blk.new w t #[v]
 match j with
 | 0=>
   simp at hu;subst hu;have:=b.cell 0
   simp [Addr.add]
 | j+1=>simp at hu
theorem Zt {v:Value} {p:Value->Prop} (h:p v):∀ u∈[v],p u:=by intro u hu;rw [List.mem_singleton] at hu;subst hu;exact h
structure zxn (b:Nat) (rA:Option Addr) (rc:Nat) (nA:Option Addr) (nc:Nat) (rows:List zQ) (names:List (List UInt8)) (w:World) (F:ya) (gs cs:Nat) (w' :World):Prop where
 bk:F.bk=some b
 rA:F.rA=rA
 rc:F.rc=rc
 nA:F.nA=nA
 nn:F.nn=names.length
 nc:F.nc=nc
 tab:yi w.heap.size rows.length (2*names.length+2) F w' (zq7 rows names)
 scl:zaa w' gs rows.length (znr rows)
 book:zB w' b
 chg:Chg (· =b) w w'
 sne:∀ i,i<=rows.length->F.g i≠gs
 sty:∃ cs,w'.heap[gs]?=some (.cells cs 53 (0,0))
theorem zjm (b n c nn nc:Nat) (rA nA:Option Addr) (rows:List zQ) (names:List (List UInt8)) (w:World) (hB:zB w b) (hr:yN w (.slice rA n c) rows) (hn:zF w w.heap.size (.slice nA nn nc) names)
 (hok:∀ r∈rows,zwa names r) (hm0:0<rows.length) (hmm:rows.length<=10000) (hnn:names.length<=400):
 Calls Tryz.prog 61 #[.map (some b),.slice rA n c,.slice nA nn nc] w (fun e w' =>∃ F gs cs,e= .returned (.tuple #[.pointer (some ⟨F.gt,0,none⟩),.slice (some ⟨gs,0,none⟩) rows.length cs])/\zxn b rA c nA nc rows names w F gs cs w'):=by
 obtain rfl:=hr.len
 obtain rfl:=hn.len
 have m:=zf w (.cells (xT b (.slice rA rows.length c) (.slice nA names.length nc) (.slice none 0 0) (.slice none 0 0) (.slice none 0 0)) 128)
 have l:Hid (za4 w b rows.length w.heap.size (w.heap.size+1) (.slice rA rows.length c) (.slice nA names.length nc) rows names (fun _=>0) 0 0 0 0 (.slice none 0 0) (.slice none 0 0) (.slice none 0 0) (.slice none 0 0)
  (xT b (.slice rA rows.length c) (.slice nA names.length nc) (.slice none 0 0) (.slice none 0 0) (.slice none 0 0)) (w.alloc (.cells (xT b (.slice rA rows.length c) (.slice nA names.length nc) (.slice none 0 0) (.slice none 0 0) (.slice none 0 0)) 128))):=by
  refine ⟨Blk.new _ _ _,?_,Zv.nil _ _ _ _ _,Zz _ _ _ _,Zz _ _ _ _,Z8.nil _ _ _,hB.below m,zT.below hr m,hn.below m,Chg.of_below m,(fun j hj=>by omega),(fun c h=>by cases h),Nat.le_refl _,(by simp),hB.lt,Nat.lt_succ_self _,(fun j hj=>by omega),?_⟩
  rotate_left
  . intro c h
    rcases h with h | h | h | h<;>cases h
  refine Zq ?_
  unfold xT
  intro u hu
  simp at hu
  rcases hu with rfl | rfl | rfl | rfl | rfl | rfl | rfl | rfl
  all_goals first | exact zsd _ | exact zM _ _ _ | exact vi _ | exact ZD _
 have cG:=ze hok
 clear hB hr hn m hok
 unfold xT at l
 go_enter func61,ntmps61
 go_upto_region 4 with fail
 have cE:=ze (Nat.le_refl w.heap.size)
 generalize w.alloc (.cells #[.map (some b),.slice rA rows.length c,.slice nA names.length nc,.slice none 0 0,.int .i64 1,.slice none 0 0,.bool false,.slice none 0 0,.slice none 0 0] 128)=W at l |-
 obtain ⟨gt,be⟩:∃ gt,gt=w.heap.size:=⟨_,rfl⟩
 obtain ⟨N0,bW⟩:∃ N,N=w.heap.size+1:=⟨_,rfl⟩
 rw [<- bW, <- be] at l
 rw [<- be]
 clear be bW cE
 have bl:=fun w' (h:zB w' b) (s:List UInt8) (hs:zN s)=>ZG b ⟨s.toArray⟩ w' h (by rw [<- zm,xR];exact hs)
 simp only [xR] at bl
 have bJ:=ze bl
 have cU:=ze (fun w v z h=>yY v z w h)
 clear bl
 have eL:IntKind.i64.wrap (2*(names.length:Int)+2)=2*(names.length:Int)+2:=by rw [IntKind.wrap_i64];omega
 have ch:((2*names.length+2:Nat):Int)=2*(names.length:Int)+2:=by omega
 have cn:=ze ch
 clear ch
 have cT:IntKind.i64.wrap (2*(names.length:Int))=2*(names.length:Int):=by rw [IntKind.wrap_i64];omega
 obtain ⟨K3,bM⟩:∃ K,K=2*names.length+1:=⟨_,rfl⟩
 have cK:IntKind.i64.wrap (2*(names.length:Int)+1)=(K3:Int):=by rw [IntKind.wrap_i64];omega
 have cP:(K3:Int)<2*(names.length:Int)+2:=by omega
 have cJ:(0:Int)<=(K3:Int):=by omega
 have cA:=ze bM
 have cm:Hid (K3<2*names.length+2):=by show _<_;omega
 clear bM
 go_wp2_with fail
 go_loopw [35,10] (BegR w b gt (.slice rA rows.length c) (.slice nA names.length nc) rows names) (fun iv _ _=>rows.length - (intOf iv).toNat)
 case atStart=>exact ⟨0,_,_,_,_,_,Nat.zero_le _,rfl,rfl,l⟩
 case round=>
  clear l
  obtain ⟨i,N,g,Z,bv,sv,hi,rfl,rfl,l⟩:=hrel
  by_cases ba:i<rows.length
  rotate_left
  . obtain rfl:rows.length=i:=by omega
    obtain ⟨gs,cs,co,_,_⟩:=l.o.scl.choose_spec.1.1.form hm0;subst co;have b3:wr.cell? ⟨gt,3,none⟩=some Z:=by rw [l.o.blk.cell];rfl
    have aH:¬ Z.ownBlock=some gt:=fun e=>by
     obtain ⟨cs,k1⟩:=l.o.mat.own.heap e;exact yX l.o.blk k1 (by decide) rfl
    have aX:=fun w=>zcu .i64 (2*names.length+2) (by omega) w
    rw [cn.o] at aX
    go_upto_region 24 with fail
    refine zt (S:=fun w' =>Hid (Chg (fun x=>Z.ownBlock=some x) wr w')/\w'.cell? ⟨gt,3,none⟩=some Z) 8 5 13 rfl (by kernel_rfl) (by kernel_rfl) (by kernel_rfl) rfl (zl (Zo wr) (fun hB=>zX hB b3 aH)) ?_ (fun hHeld=>?_)
    . intro _ _ _ _ _ h9;exact h9
    simp only [List.take_succ_cons,List.take_zero]
    iterate 8 refine ye ?_
    refine zU ?_;refine HH.rd 8 (fun K hK=>?_)
    go_simp
    have aq:=(yU wr (.cells (yH (2*names.length+2)) 53)).out;have aC:Hid (Chg (fun x=>Z.ownBlock=some x) wr (wr.alloc (.cells (yH (2*names.length+2)) 53)).drew):=Chg.of_below aq;have D:=hHeld;clear hHeld;refine hK.out _ _ (zl (aC) (fun hB=>zX hB b3 aH)) (fun hHeld=>?_);clear D hK K
    try simp only [Act.put,xST]
    clear aC aq aX;refine HH.rd 9 (fun K hK=>?_)
    go_simp
    have bm:=zf (wr.alloc (.cells (yH (2*names.length+2)) 53)) (.cells #[.slice (some ⟨wr.heap.size,0,none⟩) (2*names.length+2) (2*names.length+2)] 119);have aq:=zo (ext (zf wr (.cells (yH (2*names.length+2)) 53)) bm) 1;have af:=zo bm 1;have a0:=ze ((zf7 wr (2*names.length+2)).below af);have cg:=ze l.o.top;have J:=ze (l.o.below aq);have U:=Vo (w:=wr.alloc (.cells (yH (2*names.length+2)) 53)) (t:=119) (v:=.slice (some ⟨wr.heap.size,0,none⟩) (2*names.length+2) (2*names.length+2));have aC:Hid (Chg (fun x=>Z.ownBlock=some x) wr ((wr.alloc (.cells (yH (2*names.length+2)) 53)).alloc (.cells #[.slice (some ⟨wr.heap.size,0,none⟩) (2*names.length+2) (2*names.length+2)] 119)).drew):=Chg.of_below aq;have ao:=J.o.chg.size;have D:=hHeld;clear hHeld;refine hK.out _ _ (zl (aC) (fun hB=>zX hB b3 aH)) (fun hHeld=>?_);clear D hK K
    try simp only [Act.put,xST]
    clear aC aq bm af l;have X:=Zt (v:=.slice (some ⟨wr.heap.size,0,none⟩) (2*names.length+2) (2*names.length+2)) (p:=fun u=>u.oneCell' =true) rfl;have V:=Zt (v:=.slice (some ⟨wr.heap.size,0,none⟩) (2*names.length+2) (2*names.length+2)) (p:=Z0) (zM _ _ _);have O:∀ u∈(Value.slice none 0 0).cells,Z0 u:=by intro u hu;simp [Value.cells] at hu;subst hu;exact zM _ _ _
    obtain ⟨i1,an,am,al,aj⟩:=info_parts zgs;refine HH.ready (rs:=[10]) (by kernel_rfl) (by simp) (by kernel_rfl) ?_;refine yV.cons (o:=_) rfl (fun K hK=>?_) yV.nil;rw [if_pos (by rfl)];refine xk (P:=Tryz.prog) (.tmp 134) (.tmp 139) _ rfl w.heap.size 119 i1 _ 1 24 underlying126 an am al aj rfl (by omega) _ rows.length _ rfl J.o.mat.own ⟨(wr.alloc (.cells (yH (2*names.length+2)) 53)).heap.size,0,none⟩ 1 1 [.slice (some ⟨wr.heap.size,0,none⟩) (2*names.length+2) (2*names.length+2)] ?_ rfl (by omega) U X V O (by unfold maxLen;omega) (by omega) ao ?_
    . simp [Act.eval,World.size_alloc]
    intro cD w6 G R aa;obtain ⟨ab,ac,bD,_,_⟩:=G.1.form (by omega);subst bD;have au:=J.o.row a0.o cg.o (fun j hj=>by unfold zt4;rw [if_neg (by omega)]) G R;have c4:w6.cell? ⟨gt,3,none⟩=some Z:=by rw [au.blk.cell];rfl
    have f4:=au.blk.frozen 3;have T:=ze (au.store 3 (xN G));rw [show (xT b (.slice rA rows.length c) (.slice nA names.length nc) Z bv (.slice none 0 0)).setIfInBounds 3 (.slice (some ⟨ab,0,none⟩) (rows.length+1) ac)=xT b (.slice rA rows.length c) (.slice nA names.length nc) (.slice (some ⟨ab,0,none⟩) (rows.length+1) ac) bv (.slice none 0 0) from rfl] at T;generalize w6.heap.size=N2 at T;generalize (fun j=>if j=rows.length then wr.heap.size else g j)=g2 at T;have D:=hHeld;clear hHeld;refine hK.out _ _ (zl (ZY (xP R) D.1) (fun hB=>zX hB b3 aH)) (fun hHeld=>?_);clear D hK K
    try simp only [Act.put,xST]
    clear G R aa au J a0 cg U X V O ao b3 aH;refine HH.tk 11 ?_;refine HH.tk 12 ?_;have aI:=(hHeld.1).out;clear aI hHeld;refine HH.done (by kernel_rfl) ?_;simp only [List.drop_succ_cons,List.drop_zero]
    go_upto_region 25 with fail
    clear c4 f4;generalize w6.setCell ⟨gt,3,none⟩ (.slice (some ⟨ab,0,none⟩) (rows.length+1) ac)=W7 at T |-;go_wp2_with fail
    go_loopw [145] (BegO w b gt (.slice rA rows.length c) (.slice nA names.length nc) rows names g2 (.slice (some ⟨ab,0,none⟩) (rows.length+1) ac) bv (.slice (some ⟨gs,0,none⟩) rows.length cs)) (fun iv _=>2*names.length - (intOf iv).toNat)
    case atStart=>exact ⟨0,_,_,Nat.zero_le _,rfl,T⟩
    case round=>
     clear T;obtain ⟨k,N,ov,hk,rfl,l⟩:=hrel
     by_cases cv:k<2*names.length
     . have cI:(k:Int)<2*(names.length:Int):=by omega
       have c8:wr.cell? ⟨gt,8,none⟩=some ov:=by rw [l.o.blk.cell];rfl
       have m:=zf wr (.cells #[.int .i64 (k:Int)] 3);have J:=ze (l.o.below m);have ao:=J.o.chg.size;have ay:=ze ao;have U:=Vo (w:=wr) (t:=3) (v:=.int .i64 (k:Int));have X:=Zt (v:=.int .i64 (k:Int)) (p:=fun u=>u.oneCell' =true) rfl;have V:=Zt (v:=.int .i64 (k:Int)) (p:=Z0) (vi _);have O:∀ u∈(Value.int .i64 0).cells,Z0 u:=by intro u hu;simp [Value.cells] at hu;subst hu;exact vi _
       obtain ⟨i1,an,am,al,aj⟩:=info_parts zi1;clear m l ao;go_wp2_with (at_builtin;go_must (refine zS (P:=Tryz.prog) rfl (.tmp 152) (.tmp 154) _ rfl w.heap.size 3 i1 _ 1 8 Tryz.underlyingInts an am al aj rfl (by omega) _ k _ rfl J.o.oth ⟨wr.heap.size,0,none⟩ 1 1 [.int .i64 (k:Int)] rfl rfl (by omega) U X V O ?o4 ?o5 ?o6 ?_))
       case o4=>unfold maxLen;omega
       case o5=>omega
       case o6=>exact ay.o
       intro cw w6 G R aa;obtain ⟨aO,aQ,bz,_,_⟩:=G.1.form (by omega);subst bz;rw [show [Value.int .i64 (k:Int)]=[.int .i64 (zux names.length rows.length k:Nat)] by unfold zux;rw [if_pos cv],XL] at G;have aw:=J.o.other G R (by rw [World.size_alloc];exact aa);have c9:w6.cell? ⟨gt,8,none⟩=some ov:=by rw [aw.blk.cell];rfl
       have f9:=aw.blk.frozen 8;have aA:=ze (aw.store 8 (xN G));rw [show (xT b (.slice rA rows.length c) (.slice nA names.length nc) (.slice (some ⟨ab,0,none⟩) (rows.length+1) ac) bv ov).setIfInBounds 8 (.slice (some ⟨aO,0,none⟩) (k+1) aQ)=xT b (.slice rA rows.length c) (.slice nA names.length nc) (.slice (some ⟨ab,0,none⟩) (rows.length+1) ac) bv (.slice (some ⟨aO,0,none⟩) (k+1) aQ) from rfl] at aA;clear G R aa aw J ay U X V O c8;go_wp2_with fail;go_roundw
       case rel=>exact ⟨k+1,_,_,by omega,by go_num,aA⟩
       case measure=>simp [intOf];omega
     . obtain rfl:2*names.length=k:=by omega
       have c8:wr.cell? ⟨gt,8,none⟩=some ov:=by rw [l.o.blk.cell];rfl
       have c1:wr.cell? ⟨gt,1,none⟩=some (.slice rA rows.length c):=by rw [l.o.blk.cell];rfl
       have c2:wr.cell? ⟨gt,2,none⟩=some (.slice nA names.length nc):=by rw [l.o.blk.cell];rfl
       have ag:¬ ov.ownBlock=some gt:=fun e=>by
        obtain ⟨cs,k1⟩:=l.o.oth.heap e;exact yX l.o.blk k1 (by decide) rfl
       obtain ⟨M,aK⟩:∃ M,M=2*names.length+rows.length:=⟨_,rfl⟩;have bp:=fun w' (h1:w'.cell? ⟨gt,1,none⟩=some (.slice rA rows.length c)) (h2:w'.cell? ⟨gt,2,none⟩=some (.slice nA names.length nc))=>zjt gt rows.length names.length c nc rA nA w' h1 h2 (by omega) (by omega)
       rw [<- aK] at bp;have bV:=ze bp;have bA:=ze aK;clear bp aK
       go_upto_region 30 with fail
       refine zt (S:=fun w' =>Hid (Chg (fun x=>ov.ownBlock=some x) wr w')/\w'.cell? ⟨gt,8,none⟩=some ov/\w'.cell? ⟨gt,1,none⟩=some (.slice rA rows.length c)/\w'.cell? ⟨gt,2,none⟩=some (.slice nA names.length nc)) 6 5 11 rfl (by kernel_rfl) (by kernel_rfl) (by kernel_rfl) rfl (zl (Zo wr) (fun hB=>⟨zX hB c8 ag,zX hB c1 ag,zX hB c2 ag⟩)) ?_ (fun hHeld=>?_)
       . intro _ _ _ _ _ h9;exact h9
       simp only [List.take_succ_cons,List.take_zero]
       iterate 6 refine ye ?_
       refine zU ?_;refine HH.rd 6 (fun K hK=>?_)
       go_simp
       go_at_call 66;refine (bV.o _ hHeld.2.2.1 hHeld.2.2.2).mono ?_;rintro e w5 ⟨rfl,aJ⟩;replace l:=ze (l.o.below (ext (zu wr).out aJ));have D:=hHeld;clear hHeld;refine hK.out _ _ (zl (vT aJ D.1) (fun hB=>⟨zX hB c8 ag,zX hB c1 ag,zX hB c2 ag⟩)) (fun hHeld=>?_);clear D hK K
       try simp only [Act.put,xST]
       clear aJ bV;refine HH.rd 7 (fun K hK=>?_)
       go_simp
       have m:=zf w5 (.cells #[.int .i64 (M:Int)] 3);have J:=ze (l.o.below m);have D:=hHeld;clear hHeld;refine hK.out _ _ (zl (vT m D.1) (fun hB=>⟨zX hB c8 ag,zX hB c1 ag,zX hB c2 ag⟩)) (fun hHeld=>?_);clear D hK K
       try simp only [Act.put,xST]
       clear m l;have ao:=J.o.chg.size;have U:=Vo (w:=w5) (t:=3) (v:=.int .i64 (M:Int));have X:=Zt (v:=.int .i64 (M:Int)) (p:=fun u=>u.oneCell' =true) rfl;have V:=Zt (v:=.int .i64 (M:Int)) (p:=Z0) (vi _);have O:∀ u∈(Value.int .i64 0).cells,Z0 u:=by intro u hu;simp [Value.cells] at hu;subst hu;exact vi _
       obtain ⟨i1,an,am,al,aj⟩:=info_parts zi1;refine HH.ready (rs:=[8]) (by kernel_rfl) (by simp) (by kernel_rfl) ?_;refine yV.cons (o:=_) rfl (fun K hK=>?_) yV.nil;rw [if_pos (by rfl)];refine xk (P:=Tryz.prog) (.tmp 163) (.tmp 166) _ rfl w.heap.size 3 i1 _ 1 8 Tryz.underlyingInts an am al aj rfl (by omega) _ (2*names.length) _ rfl J.o.oth ⟨w5.heap.size,0,none⟩ 1 1 [.int .i64 (M:Int)] rfl rfl (by omega) U X V O (by unfold maxLen;omega) (by omega) ao ?_;intro cw w6 G R aa;obtain ⟨aO,aQ,bz,_,_⟩:=G.1.form (by omega);subst bz;rw [show [Value.int .i64 (M:Int)]=[.int .i64 (zux names.length rows.length (2*names.length):Nat)] by unfold zux;rw [if_neg (by omega),bA.o],XL] at G;have aw:=J.o.other G R (by rw [World.size_alloc];first | exact aa | (simp at aa |-;exact aa));have c9:w6.cell? ⟨gt,8,none⟩=some ov:=by rw [aw.blk.cell];rfl
       have f9:=aw.blk.frozen 8;have aA:=ze (aw.store 8 (xN G));rw [show (xT b (.slice rA rows.length c) (.slice nA names.length nc) (.slice (some ⟨ab,0,none⟩) (rows.length+1) ac) bv ov).setIfInBounds 8 (.slice (some ⟨aO,0,none⟩) (2*names.length+1) aQ)=xT b (.slice rA rows.length c) (.slice nA names.length nc) (.slice (some ⟨ab,0,none⟩) (rows.length+1) ac) bv (.slice (some ⟨aO,0,none⟩) (2*names.length+1) aQ) from rfl] at aA;have D:=hHeld;clear hHeld;refine hK.out _ _ (zl (ZY (xP R) D.1) (fun hB=>⟨zX hB c8 ag,zX hB c1 ag,zX hB c2 ag⟩)) (fun hHeld=>?_);clear D hK K
       try simp only [Act.put,xST]
       clear G R aa aw J U X V O ao c8 ag c1 c2;refine HH.tk 9 ?_;refine HH.tk 10 ?_;have aI:=(hHeld.1).out;clear aI hHeld;refine HH.done (by kernel_rfl) ?_;simp only [List.drop_succ_cons,List.drop_zero];go_wp2_with fail;go_ret2;have l:=aA.o;refine ⟨⟨gt,some b,rA,c,nA,names.length,nc,ab,ac,g2,bv,.slice (some ⟨aO,0,none⟩) (2*names.length+1) aQ⟩,gs,cs,rfl,⟨rfl,rfl,rfl,rfl,rfl,rfl,⟨⟨1,none,0,0,false,l.blk,.inl ⟨1,false,rfl,by omega,by omega,rfl⟩⟩,l.mat,l.bas,?_,l.one,l.lo,rfl⟩,?_,l.book,l.chg,(fun i hi e=>l.sne i (by omega) (by rw [show g2 i=gs from e];rfl)),l.scl.heap rfl⟩⟩
       . show Zm _ _ _ _ _ (2*names.length+2 - 1) (xd (2*names.length+2 - 1) _)
         rw [show 2*names.length+2 - 1=2*names.length+1 by omega];exact l.oth
       . obtain ⟨A',cQ,e1,e2,e3,e4⟩:=l.scl.nums
         obtain ⟨g9,e5,e6,e7⟩:=e4 hm0;injection e1 with e8 e9 e10
         rw [e5] at e8;injection e8 with e8
         injection e8 with e8
         subst e8;exact ⟨e6,e7⟩
  have cN:(i:Int)<(rows.length:Int):=by omega
  obtain ⟨ad,AT,nt,ct,eA,bB,p0,p1,ht,bk⟩:=l.o.rws.at_ ba;subst eA;obtain ⟨r,hr⟩:∃ r,r=rows[i]:=⟨_,rfl⟩;have a1:rows.getD i default=r:=by rw [hr];simp [List.getD,List.getElem?_eq_getElem ba]
  have aM:=ze (cG.o r (by rw [hr];exact List.getElem_mem ba));have b4:=ze a1;rw [<- hr] at p1 ht bk;clear hr a1;obtain rfl:=ht.len;have cR:=ht.bound;have m:=zf wr (.cells #[.slice AT r.terms.length ct,str r.bound] 33);have C:=ze (Blk.new wr 33 #[.slice AT r.terms.length ct,str r.bound]);have y:=ze (zk.below ht m);have bG:=ze bk;replace l:=ze (l.o.below m);clear m ht bk
  go_upto_region 7 with fail
  clear p0 p1 bB;generalize wr.alloc (.cells #[.slice AT r.terms.length ct,str r.bound] 33)=W1 at C y l |-;generalize wr.heap.size=gr at C |-;have r0:=C.o.cell 0;have r1:=C.o.cell 1;simp at r0 r1;have bZ:=zes b AT r.terms.length ct r.bound r.terms W1 l.o.book (y.o.more l.o.chg.size) bG.o aM.o.ok;have cl:=ze bZ;clear bZ;go_wp2_with fail;refine cl.o.mono ?_;rintro e w2 ⟨v,rfl,hv,aE,Q⟩;obtain ⟨x2,A2,k2,c2,s2,rfl,_,_,_⟩:=hv.form;have aL:=l.o.book.keepBlk Q C.o;replace y:=ze (l.o.book.keepT Q y.o);replace l:=ze (l.o.read Q aE);have m:=zf w2 (.cells #[.int .i64 x2,.slice A2 k2 c2,.bool s2] 53);replace C:=ze (aL.below m aL.lt);replace y:=ze (zk.below y.o m);have cb:Hid (N<=w2.heap.size):=l.o.top;replace l:=ze (l.o.below m);have ax:=ze (Blk.new w2 53 #[.int .i64 x2,.slice A2 k2 c2,.bool s2]);have HV:=ze (hv.below m);clear m hv aE Q aL cl r0 r1
  go_upto_region 8 with fail
  generalize w2.alloc (.cells #[.int .i64 x2,.slice A2 k2 c2,.bool s2] 53)=W2 at C y l ax HV |-;generalize w2.heap.size=gs at ax cb |-;have q0:=ax.o.cell 0;have q1:=ax.o.cell 1;have q2:=ax.o.cell 2;simp at q0 q1 q2;have m:=zf W2 (.cells #[.int .i64 x2,.slice A2 k2 c2,.bool s2] 53);have bU:=Blk.new W2 53 #[.int .i64 x2,.slice A2 k2 c2,.bool s2]
  have U:∀ (j:Nat) (u:Value),[Value.int .i64 x2,.slice A2 k2 c2,.bool s2][j]?=some u->(W2.alloc (.cells #[.int .i64 x2,.slice A2 k2 c2,.bool s2] 53)).cell? ((⟨W2.heap.size,0,none⟩:Addr).add j)=some u:=by
   intro j u hu
   have e:((⟨W2.heap.size,0,none⟩:Addr).add j)=⟨W2.heap.size,j,none⟩:=by
    unfold Addr.add
    by_cases h:j=0
    . subst h;rfl
    simp [h]
   rw [e,bU.cell j, <- hu]
   simp
  have X:∀ u∈[Value.int .i64 x2,.slice A2 k2 c2,.bool s2],u.oneCell' =true:=by intro u hu;simp at hu;rcases hu with rfl | rfl | rfl<;>rfl
  have V:∀ u∈[Value.int .i64 x2,.slice A2 k2 c2,.bool s2],Z0 u:=by
   intro u hu;simp at hu;rcases hu with rfl | rfl | rfl
   . exact vi _
   . exact zM _ _ _
   . exact ZD _
  have O:∀ u∈(Value.agg #[.int .i64 0,.slice none 0 0,.bool false]).cells,Z0 u:=by
   intro u hu;simp [Value.cells] at hu;rcases hu with rfl | rfl | rfl
   . exact vi _
   . exact zM _ _ _
   . exact ZD _
  obtain ⟨i0,an,am,al,aj⟩:=info_parts zks;replace C:=kb_ C m;replace y:=ze (zk.below y.o m);replace l:=ze (l.o.below m);replace ax:=kb_ ax m;replace HV:=ze (HV.o.below m);obtain ⟨xs,bR,bO⟩:=l.o.scl;have bx:=ze bR;have cc:=ze bO;have ay:Hid (w.heap.size<=(W2.alloc (.cells #[.int .i64 x2,.slice A2 k2 c2,.bool s2] 53)).heap.size):=l.o.chg.size;clear m bU bR bO;go_wp2_with (at_builtin;go_must (refine zS (P:=Tryz.prog) rfl (.tmp 43) (.tmp 45) _ rfl w.heap.size 53 i0 _ 3 40 underlying119 an am al aj rfl (by omega) _ i xs rfl bx.o ⟨W2.heap.size,0,none⟩ 1 1 [.int .i64 x2,.slice A2 k2 c2,.bool s2] rfl rfl (by omega) U X V O ?o4 ?o5 ?o6 ?_))
  case o4=>unfold maxLen;omega
  case o5=>omega
  case o6=>exact ay.o
  intro b8 w3 bS a7 cj;clear U X V O q0 q1 q2;have hP:Z8 w3 w.heap.size b8 (i+1) (znr rows):=Z8.push bx.o cc.o bS a7 HV.o (fun k hk=>rfl) (by show xW (rows.getD i default)=_;rw [b4.o];rfl);have cf:=fun x e=>l.o.scl.noDig (c:=x) e
  have aR:=xP a7;have cF:=ay.o;have aH:=aR.size
  have b9:Blk w3 gr 33 #[.slice AT r.terms.length ct,str r.bound]:=aR.blk C.o (fun e=>by
   obtain ⟨cs,k1⟩:=l.o.scl.heap e
   exact yX C.o k1 (by decide) rfl)
  have bg:Yo w3 gs (xW r):=⟨_,_,_,_,_,aR.blk ax.o (fun e=>by have:=l.o.oN _ (.inr (.inr (.inr e)));have:=cb.o;omega),aR.num HV.o cf⟩;have bE:zk w3 w.heap.size (.slice AT r.terms.length ct) r.terms:=y.o.chg aR (fun x m e=>by have:=(l.o.scl.lt x e).1;omega);replace l:=ze (l.o.scales hP a7 (by rw [World.size_alloc];exact cj));replace C:=ze b9;replace y:=ze bE;have E:=ze bg;have b6:=ze bg.lt;obtain ⟨N1,br⟩:∃ N1,N1=w3.heap.size:=⟨_,rfl⟩;rw [<- br] at l b6;have bF:Hid (N1<=w3.heap.size):=Nat.le_of_eq br;clear br cf aR cF aH b9 bg bE hP bS a7 cj ax HV bx cc ay;have r1:=C.o.cell 1;simp at r1;go_wp2_with fail;refine (bJ.o _ l.o.book _ bG.o).mono ?_;rintro e w4 ⟨v,ok,rfl,⟨x1,A1,k1,c1,s1,y1,B1,aB,aD,t1,rfl⟩,bq,hq,aE,Q⟩;have aZ:=hq _ (Vw aM.o.ok.bsome);have aL:=l.o.book.keepBlk Q C.o;have aW:=l.o.book.keepBox Q E.o;replace y:=ze (l.o.book.keepT Q y.o);replace l:=ze (l.o.read Q aE);have bP:Hid (N1<=w4.heap.size):=Nat.le_trans bF.o Q.size
  have m:=zf w4 (.cells #[.int .i64 x1,.slice A1 k1 c1,.bool s1,.int .i64 y1,.slice B1 aB aD,.bool t1] 55);replace C:=ze (aL.below m aL.lt);replace E:=ze (aW.below m);replace y:=ze (zk.below y.o m);replace l:=ze (l.o.below m);have I:=ze (Blk.new w4 55 #[.int .i64 x1,.slice A1 k1 c1,.bool s1,.int .i64 y1,.slice B1 aB aD,.bool t1]);have HQ:=ze (aZ.below m);have ai:Hid (N1<=(w4.alloc (.cells #[.int .i64 x1,.slice A1 k1 c1,.bool s1,.int .i64 y1,.slice B1 aB aD,.bool t1] 55)).heap.size):=Nat.le_trans bP.o m.size;clear m bq hq aE Q aZ aL aW r1 bF bP
  go_upto_region 10 with fail
  generalize w4.alloc (.cells #[.int .i64 x1,.slice A1 k1 c1,.bool s1,.int .i64 y1,.slice B1 aB aD,.bool t1] 55)=L at C E y l I HQ ai |-;generalize w4.heap.size=gq at I |-;have aX:=fun w=>zcu .i64 (2*names.length+2) (by omega) w
  rw [cn.o] at aX
  go_upto_region 11 with fail
  have m:=zf L (.cells (yH (2*names.length+2)) 53);have B:=ze (zf7 L (2*names.length+2));replace C:=kb_ C m;have a3:=ze (show gs<L.heap.size from E.o.lt);replace E:=ze (E.o.below m);replace y:=ze (zk.below y.o m);replace l:=ze (l.o.below m);replace I:=kb_ I m;replace HQ:=ze (HQ.o.below m);clear m aX;generalize L.alloc (.cells (yH (2*names.length+2)) 53)=W6 at C E y l I HQ B |-;generalize L.heap.size=gl at B ai a3 |-;have q0:=I.o.cell 0;have q1:=I.o.cell 1;have q2:=I.o.cell 2;have q3:=I.o.cell 3;have q4:=I.o.cell 4;have q5:=I.o.cell 5;simp at q0 q1 q2 q3 q4 q5;obtain ⟨sx,sA,sn,sc,sg,ar,aU⟩:=E.o;have z0:=ar.cell 0;have z1:=ar.cell 1;have z2:=ar.cell 2;simp at z0 z1 z2;have aY:=zee _ _ _ _ W6 HQ.o aU aM.o.ok.blen (by have:=(aM.o.ok.fit r.terms.length (Nat.le_refl _)).1;exact Nat.le_trans this (by omega));have aT:=ze aY;clear ar aU aY;go_wp2_with fail;refine aT.o.mono ?_;rintro e w7 ⟨v,rfl,hv,af⟩;clear q0 q1 q2 q3 q4 q5 z0 z1 z2 aT
  obtain ⟨x3,A3,k3,c3,s3,rfl,_,_,_⟩:=hv.form;replace C:=kb_ C af;replace E:=ze (E.o.below af);replace y:=ze (zk.below y.o af);replace l:=ze (l.o.below af);replace B:=ze (B.o.below af);obtain ⟨u0,u1,u2,s0,s1,s2⟩:=B.o.slots (k:=0) (by omega);have f0:=B.o.frozen (0*3);have f1:=B.o.frozen (0*3+1);have f2:=B.o.frozen (0*3+2);simp only [Nat.zero_mul,Nat.zero_add] at s0 s1 s2 f0 f1 f2;have bH:0<2*names.length+2:=by omega
  have az:=Zu (w:=w7) (g:=gl) (k:=0) (x:=x3) (A:=A3) (n:=k3) (c:=c3) (ng:=s3)
  have ae:Hid (ve (World.numAt w7 gl 0 x3 A3 k3 c3 s3) gl (2*names.length+2) (2*names.length+2) (zv0 names (Z3 (qOf r.bound) (xW r)) (xW r) r.terms 0)):=B.o.set bH hv (fun j hj=>by
   by_cases e:j=0
   . exact .inl ⟨e,by subst e;rfl⟩
   exact .inr ⟨e,hj,by show (if j=0 then _ else _)=_;rw [if_neg e]⟩)
  have ak:∀ x,x=gl->N1<=x/\zZ w7 x:=fun x e=>by subst e;exact ⟨ai.o,B.o.noDig⟩
  have ah:=ze (l.o.far az ak);have cq:=l.o.lo;have aV:=l.o.gtN;have a6:Hid (zk (World.numAt w7 gl 0 x3 A3 k3 c3 s3) w.heap.size (.slice AT r.terms.length ct) r.terms):=y.o.chg az (fun x m e=>by have:=ai.o;omega)
  have aS:=ze (az.blk C.o (fun e=>by
   obtain ⟨cs,k1⟩:=B.o.heap;rw [<- e] at k1
   exact yX C.o k1 (by decide) rfl))
  have bc:=ze (E.o.chg az (by have:=a3.o;omega) (fun x e=>(ak x e).2));clear l y C B E az ak cq aV af hv I HQ;simp only [World.numAt,Nat.zero_mul,Nat.zero_add] at ae ah a6 aS bc
  go_upto_region 12 with fail
  clear f0 f1 f2 s0 s1 s2 bH;generalize ((w7.setCell ⟨gl,0,none⟩ (.int .i64 x3)).setCell ⟨gl,1,none⟩ (.slice A3 k3 c3)).setCell ⟨gl,2,none⟩ (.bool s3)=W8 at ae ah a6 aS bc |-;have r0:=aS.o.cell 0;simp at r0;go_wp2_with fail;clear r0 aS
  go_loopw [66] (BegI w b gt N1 gl gs (.slice (some ad) rows.length c) (.slice nA names.length nc) (.slice AT r.terms.length ct) rows names g i r Z bv b8) (fun iv _=>r.terms.length - (intOf iv).toNat)
  case atStart=>exact ⟨0,Nat.zero_le _,rfl,ah,a6,ae,bc⟩
  case round=>
   clear ae ah a6 bc;obtain ⟨t,ht,rfl,l,y,B,E⟩:=hrel
   by_cases a8:t<r.terms.length
   rotate_left
   . obtain rfl:r.terms.length=t:=by omega
     skip
     obtain ⟨u0,u1,u2,j0,j1,j2⟩:=B.o.slots cm.o;have f0:=B.o.frozen (K3*3);have f1:=B.o.frozen (K3*3+1);have f2:=B.o.frozen (K3*3+2);have az:=Zu (w:=wr) (g:=gl) (k:=K3) (x:=1) (A:=none) (n:=0) (c:=0) (ng:=false);have ak:∀ x,x=gl->N1<=x/\zZ wr x:=fun x e=>by subst e;exact ⟨ai.o,B.o.noDig⟩
     have b0:yb wr (.agg #[.int .i64 1,.slice none 0 0,.bool false]) 1:=.inl ⟨1,false,rfl,by omega,by omega,rfl⟩
     have ae:Hid (ve (World.numAt wr gl K3 1 none 0 0 false) gl (2*names.length+2) (2*names.length+2) (zr9 names r)):=B.o.set cm.o b0 (fun j hj=>by
      have h1:=cA.o
      show (j=K3/\(if j=2*names.length+1 then _ else _)=_)\/(j≠K3/\j<_/\(if j=2*names.length+1 then _ else _)=_)
      rw [<- h1]
      by_cases e:j=K3
      . exact .inl ⟨e,if_pos e⟩
      exact .inr ⟨e,hj,if_neg e⟩)
     have ah:=ze (l.o.far az ak);clear l B y E az ak b0;simp only [World.numAt] at ae ah
     go_upto_region 21 with fail
     clear j0 j1 j2 f0 f1 f2;generalize ((wr.setCell ⟨gl,K3*3,none⟩ (.int .i64 1)).setCell ⟨gl,K3*3+1,none⟩ (.slice none 0 0)).setCell ⟨gl,K3*3+2,none⟩ (.bool false)=W2 at ae ah |-;have c3:W2.cell? ⟨gt,3,none⟩=some Z:=by rw [ah.o.blk.cell];rfl
     have m:=zf W2 (.cells #[.slice (some ⟨gl,0,none⟩) (2*names.length+2) (2*names.length+2)] 119);have J:=ze (ah.o.below m);have a0:=ze (ae.o.below m);have ay:Hid (w.heap.size<=(W2.alloc (.cells #[.slice (some ⟨gl,0,none⟩) (2*names.length+2) (2*names.length+2)] 119)).heap.size):=J.o.chg.size;have U:=Vo (w:=W2) (t:=119) (v:=.slice (some ⟨gl,0,none⟩) (2*names.length+2) (2*names.length+2));have X:=Zt (v:=.slice (some ⟨gl,0,none⟩) (2*names.length+2) (2*names.length+2)) (p:=fun u=>u.oneCell' =true) rfl;have V:=Zt (v:=.slice (some ⟨gl,0,none⟩) (2*names.length+2) (2*names.length+2)) (p:=Z0) (zM _ _ _);have O:∀ u∈(Value.slice none 0 0).cells,Z0 u:=by intro u hu;simp [Value.cells] at hu;subst hu;exact zM _ _ _
     obtain ⟨i0,an,am,al,aj⟩:=info_parts zgs;clear m ah ae;go_wp2_with (at_builtin;go_must (refine zS (P:=Tryz.prog) rfl (.tmp 111) (.tmp 113) _ rfl w.heap.size 119 i0 _ 1 24 underlying126 an am al aj rfl (by omega) _ i _ rfl J.o.mat.own ⟨W2.heap.size,0,none⟩ 1 1 [.slice (some ⟨gl,0,none⟩) (2*names.length+2) (2*names.length+2)] rfl rfl (by omega) U X V O ?o4 ?o5 ?o6 ?_))
     case o4=>unfold maxLen;omega
     case o5=>omega
     case o6=>exact ay.o
     intro cD w4 G R aa;obtain ⟨ab,ac,bD,_,_⟩:=G.1.form (by omega);subst bD;have au:=J.o.row a0.o ai.o (fun j hj=>by unfold zt4;rw [if_pos ba,b4.o]) G R;have c4:w4.cell? ⟨gt,3,none⟩=some Z:=by rw [au.blk.cell];rfl
     have f4:=au.blk.frozen 3;have T:=ze (au.store 3 (xN G));rw [show (xT b (.slice (some ad) rows.length c) (.slice nA names.length nc) Z bv (.slice none 0 0)).setIfInBounds 3 (.slice (some ⟨ab,0,none⟩) (i+1) ac)=xT b (.slice (some ad) rows.length c) (.slice nA names.length nc) (.slice (some ⟨ab,0,none⟩) (i+1) ac) bv (.slice none 0 0) from rfl] at T;generalize w4.heap.size=N2 at T;generalize (fun j=>if j=i then gl else g j)=g2 at T;clear G R aa au J a0 ay U X V O c3 ai a3 b6
     go_upto_region 22 with fail
     clear c4 f4;generalize w4.setCell ⟨gt,3,none⟩ (.slice (some ⟨ab,0,none⟩) (i+1) ac)=L at T |-;have b7:L.cell? ⟨gt,7,none⟩=some bv:=by rw [T.o.blk.cell];rfl
     have b2:L.cell? ⟨gt,2,none⟩=some (.slice nA names.length nc):=by rw [T.o.blk.cell];rfl
     have av:¬ bv.ownBlock=some gt:=fun e=>by
      obtain ⟨cs,k1⟩:=T.o.bas.heap e;exact yX T.o.blk k1 (by decide) rfl
     obtain ⟨M,aK⟩:∃ M,M=2*names.length+i:=⟨_,rfl⟩;have bn:=fun w' (h:w'.cell? ⟨gt,2,none⟩=some (.slice nA names.length nc))=>ziv gt i nA names.length nc w' h (by omega) (by omega)
     rw [<- aK] at bn;have b5:=ze bn;have bA:=ze aK;clear bn aK;refine zt (S:=fun w' =>Hid (Chg (fun x=>bv.ownBlock=some x) L w')/\w'.cell? ⟨gt,7,none⟩=some bv/\w'.cell? ⟨gt,2,none⟩=some (.slice nA names.length nc)) 7 5 12 rfl (by kernel_rfl) (by kernel_rfl) (by kernel_rfl) rfl (zl (Zo L) (fun hB=>⟨zX hB b7 av,zX hB b2 av⟩)) ?_ (fun hHeld=>?_)
     . intro _ _ _ _ _ h9;exact h9
     simp only [List.take_succ_cons,List.take_zero]
     iterate 7 refine ye ?_
     refine zU ?_;refine HH.rd 7 (fun K hK=>?_)
     go_simp
     go_at_call 109;refine (b5.o _ hHeld.2.2).mono ?_;rintro e w9 ⟨rfl,rfl⟩;have D:=hHeld;clear hHeld;refine hK.out _ _ (zl (D.1) (fun hB=>⟨zX hB b7 av,zX hB b2 av⟩)) (fun hHeld=>?_);clear D hK K
     try simp only [Act.put,xST]
     clear b5;refine HH.rd 8 (fun K hK=>?_)
     go_simp
     have aq:=(yU L (.cells #[.int .i64 (M:Int)] 3)).out;have a5:=ze (T.o.below aq);have aC:Hid (Chg (fun x=>bv.ownBlock=some x) L (L.alloc (.cells #[.int .i64 (M:Int)] 3)).drew):=Chg.of_below aq;have D:=hHeld;clear hHeld;refine hK.out _ _ (zl (aC) (fun hB=>⟨zX hB b7 av,zX hB b2 av⟩)) (fun hHeld=>?_);clear D hK K
     try simp only [Act.put,xST]
     clear aC aq T;have U:=Vo (w:=L) (t:=3) (v:=.int .i64 (M:Int));have X:=Zt (v:=.int .i64 (M:Int)) (p:=fun u=>u.oneCell' =true) rfl;have V:=Zt (v:=.int .i64 (M:Int)) (p:=Z0) (vi _);have O:∀ u∈(Value.int .i64 0).cells,Z0 u:=by intro u hu;simp [Value.cells] at hu;subst hu;exact vi _
     obtain ⟨i1,an,am,al,aj⟩:=info_parts zi1;have ao:=a5.o.chg.size;refine HH.ready (rs:=[9]) (by kernel_rfl) (by simp) (by kernel_rfl) ?_;refine yV.cons (o:=_) rfl (fun K hK=>?_) yV.nil;rw [if_pos (by rfl)];refine xk (P:=Tryz.prog) (.tmp 121) (.tmp 125) _ rfl w.heap.size 3 i1 _ 1 8 Tryz.underlyingInts an am al aj rfl (by omega) _ i _ rfl a5.o.bas ⟨L.heap.size,0,none⟩ 1 1 [.int .i64 (M:Int)] rfl rfl (by omega) U X V O (by unfold maxLen;omega) (by omega) ao ?_;intro cV w6 G R aa;obtain ⟨bL,ca,cu,_,_⟩:=G.1.form (by omega);subst cu;rw [show [Value.int .i64 (M:Int)]=[.int .i64 (zxz names.length i:Nat)] by rw [bA.o];rfl,XL] at G;have a4:=a5.o.basic G R aa;have c7:w6.cell? ⟨gt,7,none⟩=some bv:=by rw [a4.blk.cell];rfl
     have f7:=a4.blk.frozen 7;have aA:=ze (a4.store 7 (xN G));rw [show ∀ Z:Value,(xT b (.slice (some ad) rows.length c) (.slice nA names.length nc) Z bv (.slice none 0 0)).setIfInBounds 7 (.slice (some ⟨bL,0,none⟩) (i+1) ca)=xT b (.slice (some ad) rows.length c) (.slice nA names.length nc) Z (.slice (some ⟨bL,0,none⟩) (i+1) ca) (.slice none 0 0) from fun _=>rfl] at aA;have D:=hHeld;clear hHeld;refine hK.out _ _ (zl (ZY (xP R) D.1) (fun hB=>⟨zX hB b7 av,zX hB b2 av⟩)) (fun hHeld=>?_);clear D hK K
     try simp only [Act.put,xST]
     clear G R aa a4 a5 U X V O ao b7 b2 av;refine HH.tk 10 ?_;refine HH.tk 11 ?_;have aI:=(hHeld.1).out;clear aI hHeld;refine HH.done (by kernel_rfl) ?_;simp only [List.drop_succ_cons,List.drop_zero];go_wp2_with fail;go_roundw
     case rel=>exact ⟨i+1,_,_,_,_,_,by omega,by go_num,rfl,aA⟩
     case measure=>simp [intOf];omega
   have cM:(t:Int)<(r.terms.length:Int):=by omega
   obtain ⟨cL,eA,bB,p0,p1,cp,bQ⟩:=y.o.at_ a8;subst eA;have a1:r.terms.getD t default=r.terms[t]:=by simp [List.getD,List.getElem?_eq_getElem a8]
   have a2:=ze (aM.o.nm _ (List.getElem_mem a8));have bX:=ze (aM.o.ok.good _ (List.getElem_mem a8));have bN:=ze a1;have ah:=ze bQ;have m:=zf wr (.cells #[str r.terms[t].name,str r.terms[t].coef] 35);have C:=ze (Blk.new wr 35 #[str r.terms[t].name,str r.terms[t].coef]);replace l:=ze (l.o.below m);replace y:=ze (zk.below y.o m);replace B:=ze (B.o.below m);replace E:=ze (E.o.below m);clear m cp bQ a1
   go_upto_region 15 with fail
   clear p0 p1 bB;generalize wr.alloc (.cells #[str r.terms[t].name,str r.terms[t].coef] 35)=W1 at C l y B E |-;generalize wr.heap.size=gtm at C |-;have p0:=C.o.cell 0;have p1:=C.o.cell 1;simp at p0 p1;have bC:=VZ nA names.length nc names r.terms[t].name w.heap.size _ W1 l.o.nms a2.o.lt a2.o.at_ a2.o.lo a2.o.hi (by omega);have cr:=a2.o.lt;obtain ⟨p,hp⟩:∃ p,names.idxOf r.terms[t].name=p:=⟨_,rfl⟩;have cy:Hid (zb8 names r.terms t=p):=by show zb8 _ _ _=_;unfold zb8;rw [bN.o];exact hp
   rw [hp] at bC cr;have ce:=ze bC;clear bC hp;go_wp2_with fail;refine ce.o.mono ?_;rintro e w9 ⟨rfl,rfl⟩;clear ce;go_wp2_with fail;refine (bJ.o _ l.o.book _ ah.o).mono ?_;rintro e w4 ⟨v,cO,rfl,⟨x1,A1,k1,c1,s1,y1,B1,aB,aD,t1,rfl⟩,bq,hq,aE,Q⟩;have aZ:=hq _ (Vw bX.o.1);have aW:=l.o.book.keepBox Q E.o;have cC:=l.o.hb;have bi:=l.o.lo;have aV:=l.o.gtN;have bI:=B.o.chg Q (by have:=ai.o;omega) (fun x e=>by subst e;exact l.o.book.noDig);replace y:=ze (l.o.book.keepT Q y.o);replace l:=ze (l.o.read Q aE);have m:=zf w4 (.cells #[.int .i64 x1,.slice A1 k1 c1,.bool s1,.int .i64 y1,.slice B1 aB aD,.bool t1] 55);replace B:=ze (bI.below m);replace E:=ze (aW.below m);replace y:=ze (zk.below y.o m);replace l:=ze (l.o.below m);have I:=ze (Blk.new w4 55 #[.int .i64 x1,.slice A1 k1 c1,.bool s1,.int .i64 y1,.slice B1 aB aD,.bool t1]);have HQ:=ze (aZ.below m);clear m bq hq aE Q aZ bI aW p0 p1 C cC bi aV
   go_upto_region 17 with fail
   generalize w4.alloc (.cells #[.int .i64 x1,.slice A1 k1 c1,.bool s1,.int .i64 y1,.slice B1 aB aD,.bool t1] 55)=L at E y l I HQ B |-;generalize w4.heap.size=gq at I |-;have q0:=I.o.cell 0;have q1:=I.o.cell 1;have q2:=I.o.cell 2;have q3:=I.o.cell 3;have q4:=I.o.cell 4;have q5:=I.o.cell 5;simp at q0 q1 q2 q3 q4 q5;obtain ⟨sx,sA,sn,sc,sg,ar,aU⟩:=E.o;have z0:=ar.cell 0;have z1:=ar.cell 1;have z2:=ar.cell 2;simp at z0 z1 z2;have aY:=zee _ _ _ _ L HQ.o aU bX.o.2 (by have:=(aM.o.ok.fit r.terms.length (Nat.le_refl _)).1;exact Nat.le_trans this (by omega));have aT:=ze aY;clear ar aU aY;go_wp2_with fail;refine aT.o.mono ?_;rintro e w7 ⟨v,rfl,hv,af⟩;clear q0 q1 q2 q3 q4 q5 z0 z1 z2 aT I HQ;obtain ⟨x4,A4,k4,c4,s4,rfl,_,_,_⟩:=hv.form;have cB:Hid (Z3 (qOf r.terms[t].coef) (xW r)=Va (xW r) r.terms t):=by show _=_;unfold Va;rw [bN.o]
   rw [cB.o] at hv;have m:=ext af (zf w7 (.cells #[.int .i64 x4,.slice A4 k4 c4,.bool s4] 53));have b1:=zf w7 (.cells #[.int .i64 x4,.slice A4 k4 c4,.bool s4] 53);have aG:=ze (Blk.new w7 53 #[.int .i64 x4,.slice A4 k4 c4,.bool s4]);have bj:Hid (L.heap.size<=w7.heap.size):=af.size;have cx:=ze B.o.lt;have cS:=ze E.o.lt;replace B:=ze (B.o.below m);replace E:=ze (E.o.below m);replace y:=ze (zk.below y.o m);replace l:=ze (l.o.below m);have HV:=ze (hv.below b1);clear m b1 hv af
   go_upto_region 18 with fail
   generalize w7.alloc (.cells #[.int .i64 x4,.slice A4 k4 c4,.bool s4] 53)=W7 at E y l B aG HV |-;generalize w7.heap.size=gv at aG bj |-;have q0:=aG.o.cell 0;have q1:=aG.o.cell 1;have q2:=aG.o.cell 2;simp at q0 q1 q2;have vL:=aG.o.lt;obtain ⟨Y,ck⟩:∃ K,K=1+2*p:=⟨_,rfl⟩;obtain ⟨K2,bY⟩:∃ K,K=2+2*p:=⟨_,rfl⟩;have e1:IntKind.i64.wrap (2*(p:Int))=2*(p:Int):=by rw [IntKind.wrap_i64];omega
   have e2:IntKind.i64.wrap (1+2*(p:Int))=(Y:Int):=by rw [IntKind.wrap_i64];omega
   have e3:IntKind.i64.wrap (2+2*(p:Int))=(K2:Int):=by rw [IntKind.wrap_i64];omega
   have e4:(Y:Int)<2*(names.length:Int)+2:=by omega
   have e5:(K2:Int)<2*(names.length:Int)+2:=by omega
   have e6:(0:Int)<=(Y:Int):=by omega
   have e7:(0:Int)<=(K2:Int):=by omega
   have cH:=ze ck;have aS:=ze bY;have a9:Hid (Y<2*names.length+2/\K2<2*names.length+2):=⟨by omega,by omega⟩;clear ck bY;have ap:¬ gv=gl:=by have:=bj.o;have:=cx.o;omega
   refine zt (S:=fun w' =>Hid (Chg (fun x=>x=gl) W7 w')/\w'.cell? ⟨gv,0,none⟩=some (.int .i64 x4)/\w'.cell? ⟨gv,1,none⟩=some (.slice A4 k4 c4)/\w'.cell? ⟨gv,2,none⟩=some (.bool s4)) 9 4 13 rfl (by kernel_rfl) (by kernel_rfl) (by kernel_rfl) rfl (zl (Zo W7) (fun hB=>⟨zX hB q0 ap,zX hB q1 ap,zX hB q2 ap⟩)) ?_ (fun hHeld=>?_)
   . intro _ _ _ _ _ h9;exact h9
   simp only [List.take_succ_cons,List.take_zero]
   iterate 9 refine ye ?_
   refine zU ?_;refine HH.tk 10 ?_;refine HH.rd 9 (fun K hK=>?_)
   go_simp
   go_at_call 72;refine (yY _ _ _ (HV.o.below (zu W7).out)).mono ?_;rintro e w8 ⟨v1,rfl,hv,aJ⟩;have aN:Below W7.heap.size W7 w8:=ext (zu W7).out aJ;have bs:=ze hv;replace B:=ze (B.o.below aN);replace E:=ze (E.o.below aN);replace y:=ze (zk.below y.o aN);replace l:=ze (l.o.below aN);replace HV:=ze (HV.o.below aN);clear hv aN;have D:=hHeld;clear hHeld;refine hK.out _ _ (zl (vT aJ D.1) (fun hB=>⟨zX hB q0 ap,zX hB q1 ap,zX hB q2 ap⟩)) (fun hHeld=>?_);clear D hK K
   try simp only [Act.put,xST]
   clear aJ;obtain ⟨x5,A5,k5,c5,s5,rfl,_,_,_⟩:=bs.o.form;obtain ⟨u0,u1,u2,j0,j1,j2⟩:=B.o.slots a9.o.1;have f0:=B.o.frozen (Y*3);have f1:=B.o.frozen (Y*3+1);have f2:=B.o.frozen (Y*3+2);have aP:=Zu (w:=w8) (g:=gl) (k:=Y) (x:=x5) (A:=A5) (n:=k5) (c:=c5) (ng:=s5);have ak:∀ x,x=gl->N1<=x/\zZ w8 x:=fun x e=>by subst e;exact ⟨ai.o,B.o.noDig⟩
   have aF:Hid (ve (World.numAt w8 gl Y x5 A5 k5 c5 s5) gl (2*names.length+2) (2*names.length+2) (fun j=>if j=Y then -(Va (xW r) r.terms t) else zv0 names (Z3 (qOf r.bound) (xW r)) (xW r) r.terms t j)):=B.o.set a9.o.1 bs.o (fun j hj=>by
    by_cases e:j=Y
    . exact .inl ⟨e,by rw [if_pos e]⟩
    . exact .inr ⟨e,hj,by rw [if_neg e]⟩)
   have cd:=ze (aP.num HV.o (fun x e=>(ak x e).2));have bK:=ze (l.o.far aP ak);have bw:¬ gs=gl:=by have:=a3.o;omega
   have ci:=ze (E.o.chg aP bw (fun x e=>(ak x e).2));have cz:=l.o.chg.size;have bi:=l.o.lo;have aV:=l.o.gtN;have bT:=ze (y.o.chg aP (fun x m e=>by have:=ai.o;omega));have bb:=Zu (w:=World.numAt w8 gl Y x5 A5 k5 c5 s5) (g:=gl) (k:=K2) (x:=x4) (A:=A4) (n:=k4) (c:=c4) (ng:=s4);have bh:∀ x,x=gl->N1<=x/\zZ (World.numAt w8 gl Y x5 A5 k5 c5 s5) x:=fun x e=>by subst e;exact ⟨ai.o,aF.o.noDig⟩
   have ae:Hid (ve (World.numAt (World.numAt w8 gl Y x5 A5 k5 c5 s5) gl K2 x4 A4 k4 c4 s4) gl (2*names.length+2) (2*names.length+2) (zv0 names (Z3 (qOf r.bound) (xW r)) (xW r) r.terms (t+1))):=aF.o.set a9.o.2 cd.o (fun j hj=>by
    have h1:=cH.o;have h2:=aS.o;have h3:=cy.o
    show (j=K2/\(if j=1+2*zb8 names r.terms t then _ else if j=2+2*zb8 names r.terms t then _ else _)=_)\/(j≠K2/\j<_/\(if j=1+2*zb8 names r.terms t then _ else if j=2+2*zb8 names r.terms t then _ else _)=_)
    rw [h3, <- h1, <- h2]
    by_cases e:j=K2
    . exact .inl ⟨e,by rw [if_neg (by omega),if_pos e]⟩
    . refine .inr ⟨e,hj,?_⟩
      by_cases e' :j=Y
      . rw [if_pos e',if_pos e']
      . rw [if_neg e',if_neg e,if_neg e'])
   obtain ⟨u3,u4,u5,j3,j4,j5⟩:=aF.o.slots a9.o.2;have f3:=aF.o.frozen (K2*3);have f4:=aF.o.frozen (K2*3+1);have f5:=aF.o.frozen (K2*3+2);have bo:=ze (bK.o.far bb bh);have bf:=ze (ci.o.chg bb bw (fun x e=>(bh x e).2));have bd:=ze (bT.o.chg bb (fun x m e=>by have:=ai.o;omega));have bu:Hid (Chg (fun x=>x=gl) w8 (World.numAt w8 gl Y x5 A5 k5 c5 s5)):=aP;clear bK ci bT cd aF aP bb ak bh l B y E HV bs bw cz bi aV aG vL bj;simp only [World.numAt] at ae bo bf bd j3 j4 j5 f3 f4 f5 bu;refine HH.tk 11 ?_;refine HH.rd 12 (fun K hK=>?_)
   go_simp
   have D:=hHeld;clear hHeld;refine hK.out _ _ (zl (ZY bu.out D.1) (fun hB=>⟨zX hB q0 ap,zX hB q1 ap,zX hB q2 ap⟩)) (fun hHeld=>?_);clear D hK K
   try simp only [Act.put,xST]
   clear bu;have aI:=(hHeld.1).out;clear aI hHeld;refine HH.done (by kernel_rfl) ?_;simp only [List.drop_succ_cons,List.drop_zero];clear q0 q1 q2 ap;go_wp2_with fail;go_roundw
   case rel=>first | exact ⟨t+1,by omega,by go_num,bo,bd,ae,bf⟩ | ((repeat apply Exists.intro);exact ⟨⟨t+1,by omega,by go_num,bo,bd,ae,bf⟩,rfl⟩)
   case measure=>simp [intOf];omega
def FeaR (w0:World) (base m L:Nat) (F:ya) (T:yE) (lv iv:Value) (wr:World):Prop:=
 ∃ i:Nat,i<=m/\iv= .int .i64 (i:Nat)/\lv= .int .i64 (-1)/\Hid (yi base m L F wr T)/\Hid (Below w0.heap.size w0 wr)
def zwr (base m L:Nat) (F:ya) (T:yE) (w:World) (e:Ending) (w' :World):Prop:=e= .returned (.bool true)/\yi base m L F w' T/\Below w.heap.size w w'
theorem zei (base m L:Nat) (F:ya) (T:yE) (w:World) (hT:yi base m L F w T) (hp:∀ i,i<m->0<=T.cell i 0) (hm:m<=100000) (hL:L<=100000):
 Calls Tryz.prog 62 #[.pointer (some ⟨F.gt,0,none⟩)] w (zwr base m L F T w):=by
 have t1:=hT.cell1
 have HP:=ze hp
 have U:=ze (show 0<L by have:=hT.lt2;omega)
 have ab:=U.o
 have b:=ze hT
 have j:=ze (vh w)
 clear hT hp
 go_enter func62,ntmps62
 go_wp2_with fail
 go_loopw [3,13] (FeaR w base m L F T) (fun _ iv _=>m - (intOf iv).toNat)
 case atStart=>exact ⟨0,Nat.zero_le _,rfl,rfl,b,j⟩
 case round=>
  clear b j t1
  obtain ⟨i,hi,rfl,rfl,b,j⟩:=hrel
  by_cases aa:i<m
  rotate_left
  . obtain rfl:m=i:=by omega
    go_wp2_with fail;go_ret;exact ⟨by go_num,b.o,j.o⟩
  have ae:(i:Int)<(m:Int):=by omega
  have ad:(i:Int)<(m:Int)+1:=by omega
  have t3:=b.o.cell3;have t4:=b.o.mat.cell (i:=i) (by omega);obtain ⟨Z,R,M,Y,I,a0,r,u,X⟩:=b.o.mat.at_ (i:=i) (k:=0) (by omega) U.o;simp only [Nat.zero_mul,Nat.zero_add] at a0 r u;have E:=b.o.lt;have C:=b.o.mat.lt.2;have l:=(b.o.mat.rows i (by omega)).2.lt;obtain ⟨D,N⟩:∃ D:Int,zP (T.cell i 0) 0=D:=⟨_,rfl⟩;have B:=ze4 (z:=T.cell i 0);have y:=fun w' (h:yb w' (.agg #[.int .i64 Z,.slice R M Y,.bool I]) (T.cell i 0))=>X4 _ _ w' h
  rw [N] at B y;have d1:decide (D<0)=false:=decide_eq_false (fun h=>by have:=B.2 (HP.o i aa);omega);have V:=ze X;have O:=ze y;clear X N B y
  go_upto_region 5 with fail
  refine zt (S:=fun w' =>Hid (Below wr.heap.size wr w')/\w'.cell? ⟨F.gt,3,none⟩=some (.slice (some ⟨F.gm,0,none⟩) (m+1) F.cm)/\w'.cell? ⟨F.gm,i,none⟩=some (.slice (some ⟨F.g i,0,none⟩) L L)/\w'.cell? ⟨F.g i,0,none⟩=some (.int .i64 Z)/\w'.cell? ⟨F.g i,1,none⟩=some (.slice R M Y)/\w'.cell? ⟨F.g i,2,none⟩=some (.bool I)) 9 27 36 rfl (by kernel_rfl) (by kernel_rfl) (by kernel_rfl) rfl (zl (zu wr) (fun hB=>⟨zh hB E t3,zh hB C t4,zh hB l a0,zh hB l r,zh hB l u⟩)) ?_ (fun hHeld=>?_)
  . intro _ _ _ _ _ h9;exact h9
  simp only [List.take_succ_cons,List.take_zero]
  iterate 9 refine ye ?_
  refine zU ?_;refine HH.rd 9 (fun K hK=>?_)
  go_simp
  go_at_call 36;refine (O.o _ (V.o.below hHeld.1.out)).mono ?_;rintro e w1 ⟨rfl,J⟩;have Q:=hHeld;clear hHeld;refine hK.out _ _ (zl (zr J Q.1) (fun hB=>⟨zh hB E t3,zh hB C t4,zh hB l a0,zh hB l r,zh hB l u⟩)) (fun hHeld=>?_);clear Q hK K
  try simp only [Act.put,xST]
  clear J;refine HH.tk 10 ?_;refine HH.tk 11 ?_;refine HH.sk 12 ?_;refine HH.sk 13 ?_;refine HH.sk 14 ?_;refine HH.sk 15 ?_;refine HH.sk 16 ?_;refine HH.sk 17 ?_;refine HH.sk 18 ?_;refine HH.sk 19 ?_;refine HH.sk 20 ?_;refine HH.sk 21 ?_;refine HH.sk 22 ?_;refine HH.sk 23 ?_;refine HH.sk 24 ?_;refine HH.sk 25 ?_;refine HH.sk 26 ?_;refine HH.sk 27 ?_;refine HH.sk 28 ?_;refine HH.sk 29 ?_;refine HH.sk 30 ?_;refine HH.sk 31 ?_;refine HH.sk 32 ?_;refine HH.sk 33 ?_;refine HH.sk 34 ?_;refine HH.sk 35 ?_;have G:=(hHeld.1).out;replace b:=ze (yi.below b.o G);replace j:=eb_ j G;clear G hHeld;refine HH.done (by kernel_rfl) ?_;simp only [List.drop_succ_cons,List.drop_zero];clear t3 t4 a0 r u E C l V O;go_wp2_with fail;go_roundw
  case rel=>exact ⟨i+1,by omega,by go_num,rfl,b,j⟩
  case measure=>simp [intOf];omega
def zi5 (g nn:Nat) (f:Nat->Rat) (w:World) (e:Ending) (w' :World):Prop:=e= .returned (.tuple #[])/\xo w' g nn nn f/\Chg (· =g) w w'
theorem zqb (base m L:Nat) (F:ya) (T:yE) (bT bO g u:Nat) (f:Nat->Rat) (vx:Value) (q:Rat) (w:World) (hT:yi base m L F w T) (hb:w.cell? ⟨bT,0,none⟩=some (.pointer (some ⟨F.gt,0,none⟩))) (hr:xo w g F.nn F.nn f) (hx:yc w vx q)
 (hu:2*F.nn<=u) (hu2:u<=1000000):
 Calls Tryz.prog 116 #[.int .i64 (u:Nat),vx,.pointer (some ⟨bT,0,none⟩),.pointer (some ⟨bO,0,none⟩)] w (zi5 g F.nn f w):=by
 obtain ⟨e,j,k1,c1,s1,y,r,l,B,z,rfl,I,G⟩:=hx
 have b:=zf w (.cells #[.int .i64 e,.slice j k1 c1,.bool s1,.int .i64 y,.slice r l B,.bool z] 55)
 have D:=ze (hr.below b)
 have C:Hid (Chg (· =g) w (w.alloc (.cells #[.int .i64 e,.slice j k1 c1,.bool s1,.int .i64 y,.slice r l B,.bool z] 55))):=Chg.of_below b
 have c2:=(hT.below b).cell2
 have E :=(b.cell (p:=⟨bT,0,none⟩) (World.block_lt_of_cell? w _ hb)).trans hb
 have J:IntKind.i64.wrap (2*(F.nn:Int))=2*(F.nn:Int):=by rw [IntKind.wrap_i64];omega
 have d1:decide ((u:Int) ≥ 2*(F.nn:Int))=true:=by rw [decide_eq_true_iff];omega
 clear b hr hT I G hb
 go_enter func116,ntmps116
 go_upto_region 1 with fail
 generalize w.alloc (.cells #[.int .i64 e,.slice j k1 c1,.bool s1,.int .i64 y,.slice r l B,.bool z] 55)=W at D C c2 E |-
 go_wp2_with fail
 go_end0
 exact ⟨rfl,D.o,C.o⟩
theorem zqo (base m L:Nat) (F:ya) (T:yE) (bT bO g k u:Nat) (f:Nat->Rat) (vx:Value) (q:Rat) (w:World) (hT:yi base m L F w T) (hb:w.cell? ⟨bT,0,none⟩=some (.pointer (some ⟨F.gt,0,none⟩))) (ho:w.cell? ⟨bO,0,none⟩=some (.slice (some ⟨g,0,none⟩) F.nn F.nn))
 (hr:xo w g F.nn F.nn f) (hx:yc w vx q) (hu:u=2*k) (hk:k<F.nn) (hnn:F.nn<=100000) (hl1:Z9 8388608 (f k)) (hl2:Z9 8388608 q):
 Calls Tryz.prog 116 #[.int .i64 (u:Nat),vx,.pointer (some ⟨bT,0,none⟩),.pointer (some ⟨bO,0,none⟩)] w (zi5 g F.nn (fun j=>if j=k then f j+q else f j) w):=by
 obtain ⟨C,G,k1,c1,s1,M,D,J,I,N,rfl,al,ah⟩:=hx
 have E:=zf w (.cells #[.int .i64 C,.slice G k1 c1,.bool s1,.int .i64 M,.slice D J I,.bool N] 55)
 have b:=ze (hr.below E)
 have O:Hid (Chg (· =g) w (w.alloc (.cells #[.int .i64 C,.slice G k1 c1,.bool s1,.int .i64 M,.slice D J I,.bool N] 55))):=Chg.of_below E
 have c2:=(hT.below E).cell2
 have af :=(E.cell (p:=⟨bT,0,none⟩) (World.block_lt_of_cell? w _ hb)).trans hb
 have aa :=(E.cell (p:=⟨bO,0,none⟩) (World.block_lt_of_cell? w _ ho)).trans ho
 have z:=ze (Blk.new w 55 #[.int .i64 C,.slice G k1 c1,.bool s1,.int .i64 M,.slice D J I,.bool N])
 have HX:Hid (yc (w.alloc (.cells #[.int .i64 C,.slice G k1 c1,.bool s1,.int .i64 M,.slice D J I,.bool N] 55)) (.agg #[.int .i64 C,.slice G k1 c1,.bool s1,.int .i64 M,.slice D J I,.bool N]) q):=yc.below ⟨_,_,_,_,_,_,_,_,_,_,rfl,al,ah⟩ E
 have ap:IntKind.i64.wrap (2*(F.nn:Int))=2*(F.nn:Int):=by rw [IntKind.wrap_i64];omega
 have d1:decide ((u:Int) ≥ 2*(F.nn:Int))=false:=by rw [decide_eq_false_iff_not];omega
 have e1:((u:Int).tmod 2)=0:=by rw [Int.tmod_eq_emod_of_nonneg (by omega)];omega
 have e2:((u:Int).tdiv 2)=(k:Int):=by rw [Int.tdiv_eq_ediv_of_nonneg (by omega)];omega
 have e3:(u:Int) % 2=0:=by omega
 have e4:(u:Int) / 2=(k:Int):=by omega
 have aC:(k:Int)<(F.nn:Int):=by omega
 have e5:IntKind.i64.wrap (k:Int)=(k:Int):=by rw [IntKind.wrap_i64];omega
 have e6:(0:Int)<=(k:Int):=by omega
 have ak:=ze hl1
 have ag:=ze hl2
 have ad:=ze hk
 clear E hr hT al ah hb ho hu hl1 hl2
 go_enter func116,ntmps116
 go_upto_region 1 with fail
 generalize w.alloc (.cells #[.int .i64 C,.slice G k1 c1,.bool s1,.int .i64 M,.slice D J I,.bool N] 55)=W at b O z HX c2 af aa |-
 generalize w.heap.size=gx at z |-
 go_upto_region 4 with fail
 clear c2 af d1 ap
 have Y:=aa
 have oL:=World.block_lt_of_cell? W _ Y
 obtain ⟨ax,aA,an,ac,az,ay,aB,ao,ar,at',a0,a1,a2,a3,a4,a5,ha⟩:=b.o.2 k ad.o
 have r:=b.o.lt
 have Z:=z.o.cell 0
 have Q:=z.o.cell 1
 have U:=z.o.cell 2
 have V:=z.o.cell 3
 have R:=z.o.cell 4
 have X:=z.o.cell 5
 have l:=z.o.lt
 simp at Z Q U V R X
 have HA:=ze ha
 clear ha aa
 refine zt (S:=fun w' =>Hid (Below W.heap.size W w')/\w'.cell? ⟨bO,0,none⟩=some (.slice (some ⟨g,0,none⟩) F.nn F.nn)/\w'.cell? ⟨g,k*6,none⟩=some (.int .i64 ax)/\w'.cell? ⟨g,k*6+1,none⟩=some (.slice aA an ac)/\w'.cell? ⟨g,k*6+2,none⟩=some (.bool az)/\w'.cell? ⟨g,k*6+3,none⟩=some (.int .i64 ay)/\w'.cell? ⟨g,k*6+4,none⟩=some (.slice aB ao ar)/\w'.cell? ⟨g,k*6+5,none⟩=some (.bool at')/\w'.cell? ⟨gx,0,none⟩=some (.int .i64 C)/\w'.cell? ⟨gx,1,none⟩=some (.slice G k1 c1)/\w'.cell? ⟨gx,2,none⟩=some (.bool s1)/\w'.cell? ⟨gx,3,none⟩=some (.int .i64 M)/\w'.cell? ⟨gx,4,none⟩=some (.slice D J I)/\w'.cell? ⟨gx,5,none⟩=some (.bool N)) 9 2 11 rfl (by kernel_rfl) (by kernel_rfl) (by kernel_rfl) rfl (zl (zu W) (fun hB=>⟨zh hB oL Y,zh hB r a0,zh hB r a1,zh hB r a2,zh hB r a3,zh hB r a4,zh hB r a5,zh hB l Z,zh hB l Q,zh hB l U,zh hB l V,zh hB l R,zh hB l X⟩)) ?_ (fun hHeld=>?_)
 . intro _ _ _ _ _ h9;exact h9
 simp only [List.take_succ_cons,List.take_zero]
 iterate 9 refine ye ?_
 refine zU ?_
 refine HH.rd 9 (fun K hK=>?_)
 go_simp
 go_at_call 24
 refine (YA _ _ _ _ _ (HA.o.below hHeld.1.out) (HX.o.below hHeld.1.out) ak.o ag.o).mono ?_
 rintro e w2 ⟨v1,rfl,hv,am⟩
 have ae:=ze hv
 clear hv
 have aj:=hHeld
 clear hHeld
 refine hK.out _ _ (zl (zr am aj.1) (fun hB=>⟨zh hB oL Y,zh hB r a0,zh hB r a1,zh hB r a2,zh hB r a3,zh hB r a4,zh hB r a5,zh hB l Z,zh hB l Q,zh hB l U,zh hB l V,zh hB l R,zh hB l X⟩)) (fun hHeld=>?_)
 clear aj hK K
 try simp only [Act.put,xST]
 clear am
 refine HH.tk 10 ?_
 have ab:=(hHeld.1).out
 replace b:=ze (xo.below b.o ab)
 replace O:=ze (yh O.o ab)
 clear ab hHeld
 refine HH.done (by kernel_rfl) ?_
 simp only [List.drop_succ_cons,List.drop_zero]
 clear HA HX a0 a1 a2 a3 a4 a5 Z Q U V R X oL r l Y z ak ag
 obtain ⟨x,A,n,c,s,y,B,n',c',t,rfl,av,au⟩:=ae.o
 obtain ⟨u0,u1,u2,u3,u4,u5,s0,s1,s2,s3,s4,s5⟩:=b.o.slots ad.o
 have f0:=b.o.frozen (k*6)
 have f1:=b.o.frozen (k*6+1)
 have f2:=b.o.frozen (k*6+2)
 have f3:=b.o.frozen (k*6+3)
 have f4:=b.o.frozen (k*6+4)
 have f5:=b.o.frozen (k*6+5)
 have ai:=Vn (w:=w2) (g:=g) (k:=k) (x:=x) (s:=s) (A:=A) (n:=n) (c:=c) (y:=y) (t:=t) (B:=B) (n' :=n') (c' :=c')
 have aq:Hid (xo (World.ratAt w2 g k x A n c s y B n' c' t) g F.nn F.nn (fun j=>if j=k then f j+q else f j)):=b.o.set ad.o ae.o (fun j hj=>by
  by_cases e:j=k
  . exact .inl ⟨e,by subst e;rw [if_pos rfl]⟩
  . exact .inr ⟨e,hj,by rw [if_neg e]⟩)
 have aw:Hid (Chg (· =g) w (World.ratAt w2 g k x A n c s y B n' c' t)):=O.o.trans ai (fun _ _ h=>h)
 clear b O ae ai av au
 go_wp2_with fail
 go_end0
 exact ⟨rfl,aq.o,aw.o⟩
def ze0 (T:yE) (nn:Nat):Nat->Nat->Rat
 | 0=>fun _=>0
 | i+1=>fun j=>if T.basic i<2*nn/\j=T.basic i / 2 then ze0 T nn i j+Rat.divInt (T.cell i 0) T.den else ze0 T nn i j
def VcA (w0:World) (n g bT bO gt:Nat) (iv:Value) (wr:World):Prop:=
 ∃ i:Nat,i<=n/\iv= .int .i64 i/\Hid (xo wr g n i (fun _=>0))/\Hid (Blk wr bT 118 #[.pointer (some ⟨gt,0,none⟩)])/\Hid (Blk wr bO 78 #[.slice (some ⟨g,0,none⟩) n n])/\Hid (Below w0.heap.size w0 wr)
def VcB (w0:World) (m n g bT bO gt:Nat) (T:yE) (iv:Value) (wr:World):Prop:=
 ∃ i:Nat,i<=m/\iv= .int .i64 i/\Hid (xo wr g n n (ze0 T n i))/\Hid (Blk wr bT 118 #[.pointer (some ⟨gt,0,none⟩)])/\Hid (Blk wr bO 78 #[.slice (some ⟨g,0,none⟩) n n])/\Hid (Below w0.heap.size w0 wr)
theorem zhd (base m L:Nat) (F:ya) (T:yE) (w:World) (hT:yi base m L F w T) (hf:T.Fits m L) (hm:m<=100000) (hm0:0<m) (hL:L<=100000)
 (hb:∀ i,i<m->(2*F.nn<=T.basic i/\T.basic i<=1000000)\/∃ k,T.basic i=2*k/\k<F.nn) (hl:∀ i j,i<=m->j<F.nn->Z9 8388608 (ze0 T F.nn i j)) (hv:∀ i,i<m->Z9 8388608 (Rat.divInt (T.cell i 0) T.den)):
 Calls Tryz.prog 67 #[.pointer (some ⟨F.gt,0,none⟩),.int .i64 0] w (ztc F.nn (ze0 T F.nn m) w):=by
 have aG:F.nn<=100000:=by have:=hT.cols;omega
 have aN:=fun w=>zh4 .i64 F.nn aG w
 have ah:=zf w (.cells #[.pointer (some ⟨F.gt,0,none⟩)] 118)
 have b:=ze (Blk.new w 118 #[.pointer (some ⟨F.gt,0,none⟩)])
 have aa:=ze hT
 have HF:=ze hf
 have HB:=ze hb
 have HL:=ze hl
 have HV:=ze hv
 have u:=ze ah
 have c2:=(hT.below ah).cell2
 clear hT hf hb hl hv ah
 go_enter func67,ntmps67
 go_upto_region 1 with fail
 generalize w.alloc (.cells #[.pointer (some ⟨F.gt,0,none⟩)] 118)=D at b u c2 |-
 have aO:Hid (w.heap.size<=w.heap.size):=Nat.le_refl _
 generalize av:w.heap.size=bT at b |-
 have aS:Hid (w.heap.size<=bT):=Nat.le_of_eq av
 clear av aO
 have U:=b.o.cell 0
 simp at U
 go_upto_region 2 with fail
 have hx:=ext (zf D (.cells (vP F.nn) 55)) (zf _ (.cells #[.slice (some ⟨D.heap.size,0,none⟩) F.nn F.nn] 78))
 have ay:=(zlj D F.nn (fun _=>0)).below (zf _ (.cells #[.slice (some ⟨D.heap.size,0,none⟩) F.nn F.nn] 78))
 have ai:=Blk.new (D.alloc (.cells (vP F.nn) 55)) 78 #[.slice (some ⟨D.heap.size,0,none⟩) F.nn F.nn]
 simp only [World.size_alloc] at ai
 have l:=ze ay
 have r:=ze ai
 replace b:=kb_ b hx
 have HG:Hid (w.heap.size<=D.heap.size):=u.o.size
 replace u:=eb_ u hx
 clear hx ay ai aN c2 U
 generalize (D.alloc (.cells (vP F.nn) 55)).alloc (.cells #[.slice (some ⟨D.heap.size,0,none⟩) F.nn F.nn] 78)=W3 at l r b u |-
 obtain ⟨G,ak⟩:∃ G,G=D.heap.size+1:=⟨_,rfl⟩
 rw [<- ak] at r |-
 have ad:Hid (D.heap.size≠G):=by show _≠_;omega
 clear ak
 generalize D.heap.size=g at l r HG ad |-
 have z:=r.o.cell 0
 simp at z
 go_wp2_with fail
 clear z
 go_loopw [18] (VcA w F.nn g bT G F.gt) (fun iv _=>F.nn - (intOf iv).toNat)
 case atStart=>exact ⟨0,Nat.zero_le _,rfl,l,b,r,u⟩
 case round=>
  clear l b r u
  obtain ⟨i,hi,rfl,l,b,r,u⟩:=hrel
  by_cases aF:i<F.nn
  . have aH:(i:Int)<(F.nn:Int):=by omega
    have z:=r.o.cell 0;simp at z;have I:=r.o.lt
    go_upto_region 5 with fail
    refine zt (S:=fun w' =>Hid (Below wr.heap.size wr w')/\w'.cell? ⟨G,0,none⟩=some (.slice (some ⟨g,0,none⟩) F.nn F.nn)) 2 2 4 rfl (by kernel_rfl) (by kernel_rfl) (by kernel_rfl) rfl (zl (zu wr) (fun hB=>zh hB I z)) ?_ (fun hHeld=>?_)
    . intro _ _ _ _ _ h9;exact h9
    simp only [List.take_succ_cons,List.take_zero]
    iterate 2 refine ye ?_
    refine zU ?_;refine HH.rd 2 (fun K hK=>?_)
    go_simp
    go_at_call 35;refine (YC 0 _ (by omega) (by omega)).mono ?_;rintro e w1 ⟨v,rfl,R,O⟩;have J:=ze R;clear R;have X:=hHeld;clear hHeld;refine hK.out _ _ (zl (zr O X.1) (fun hB=>zh hB I z)) (fun hHeld=>?_);clear X hK K
    try simp only [Act.put,xST]
    clear O;refine HH.tk 3 ?_;clear z I;have E:=(hHeld.1).out
    try clear t0 N z I
    replace l:=ze (xo.below l.o E);replace b:=kb_ b E;replace r:=kb_ r E;replace u:=eb_ u E;clear E hHeld;refine HH.done (by kernel_rfl) ?_;simp only [List.drop_succ_cons,List.drop_zero];obtain ⟨t0,N⟩:=zyh b.o;obtain ⟨z,I⟩:=zyh r.o;clear t0 N z I;obtain ⟨x,A,k,c,s,y,B,k',c',t,rfl,aM,aQ⟩:=J.o;obtain ⟨u0,u1,u2,u3,u4,u5,s0,s1,s2,s3,s4,s5⟩:=l.o.slots aF;have f0:=l.o.frozen (i*6);have f1:=l.o.frozen (i*6+1);have f2:=l.o.frozen (i*6+2);have f3:=l.o.frozen (i*6+3);have f4:=l.o.frozen (i*6+4);have f5:=l.o.frozen (i*6+5);have Y:=Vn (w:=w1) (g:=g) (k:=i) (x:=x) (s:=s) (A:=A) (n:=k) (c:=c) (y:=y) (t:=t) (B:=B) (n' :=k') (c' :=c')
    have ar:Hid (xo (World.ratAt w1 g i x A k c s y B k' c' t) g F.nn (i+1) (fun _=>0)):=l.o.set aF J.o (fun j hj=>by
     by_cases e:j=i
     . exact .inl ⟨e,rfl⟩
     . exact .inr ⟨e,by omega,rfl⟩)
    have V:∀ t cs,Blk w1 bT t cs->t≠55->¬ bT=g:=fun t cs h hne e=>by
     subst e;obtain ⟨aI,k1⟩:=l.o.heap;exact yX h k1 hne rfl
    have aD:=ze (Y.blk b.o (V _ _ b.o (by decide)));have al:=ze (Y.blk r.o (by have:=ad.o;omega));have az:=ze (zaf u.o Y HG.o);clear l b r u Y aM aQ J V;go_wp2_with fail;go_roundw
    case rel=>first | exact ⟨i+1,by omega,by go_num,ar,aD,al,az⟩ | ((repeat apply Exists.intro);exact ⟨⟨i+1,by omega,by go_num,ar,aD,al,az⟩,rfl⟩)
    case measure=>simp [intOf];omega
  obtain rfl:F.nn=i:=by omega
  skip
  have U:=b.o.cell 0;simp at U;obtain ⟨gb,cb,aK,am,aq⟩:=aa.o.basics hm0;have t7:=(aa.o.below u.o).cell7;rw [aK] at t7;have aP:=ze (fun wr (h:Below w.heap.size w wr) i (hi:i<m)=>(h.cell (p:=⟨gb,i,none⟩) am).trans (aq i hi));clear am aq;go_wp2_with fail;clear U t7
  go_loopw [32] (VcB w m F.nn g bT G F.gt T) (fun iv _=>m - (intOf iv).toNat)
  case atStart=>exact ⟨0,Nat.zero_le _,rfl,l,b,r,u⟩
  case round=>
   clear l b r u;obtain ⟨i,hi,rfl,l,b,r,u⟩:=hrel
   by_cases af:i<m
   rotate_left
   . obtain rfl:m=i:=by omega
     have z:=r.o.cell 0;simp at z;go_wp2_with fail;go_ret;exact ⟨g,rfl,l.o,u.o⟩
   have aH:(i:Int)<(m:Int):=by omega
   have aR:(i:Int)<(m:Int)+1:=by omega
   have C:=ze (aa.o.below u.o);have p1:=aP.o _ u.o i af;have Q:=aa.o.lt2;have t0:=b.o.cell 0;simp at t0;have t3:=C.o.cell3;have t4:=C.o.mat.cell (i:=i) (by omega);obtain ⟨ax,aA,an,ac,ag,a0,a1,a2,ha⟩:=C.o.mat.at_ (i:=i) (k:=0) (by omega) (by omega);simp only [Nat.zero_mul,Nat.zero_add] at a0 a1 a2;have aJ:0<L:=by omega
   have bL:=b.o.lt;have N:=C.o.lt;have mL:=C.o.mat.lt.2;have M:=(C.o.mat.rows i (by omega)).2.lt;have HA:=ze ha;have aE:=ze (HF.o.cell i 0 (by omega) (by omega));have ap:Hid (T.den≠0):=by have:=HF.o.den;show _≠_;omega
   clear ha
   go_upto_region 11 with fail
   clear p1;have aw:=b;clear b;refine zt (S:=fun w' =>Hid (Below wr.heap.size wr w')/\w'.cell? ⟨bT,0,none⟩=some (.pointer (some ⟨F.gt,0,none⟩))/\w'.cell? ⟨F.gt,3,none⟩=some (.slice (some ⟨F.gm,0,none⟩) (m+1) F.cm)/\w'.cell? ⟨F.gm,i,none⟩=some (.slice (some ⟨F.g i,0,none⟩) L L)/\w'.cell? ⟨F.g i,0,none⟩=some (.int .i64 ax)/\w'.cell? ⟨F.g i,1,none⟩=some (.slice aA an ac)/\w'.cell? ⟨F.g i,2,none⟩=some (.bool ag)) 13 1 14 rfl (by kernel_rfl) (by kernel_rfl) (by kernel_rfl) rfl (zl (zu wr) (fun hB=>⟨zh hB bL t0,zh hB N t3,zh hB mL t4,zh hB M a0,zh hB M a1,zh hB M a2⟩)) ?_ (fun hHeld=>?_)
   . intro _ _ _ _ _ h9;exact h9
   simp only [List.take_succ_cons,List.take_zero]
   iterate 13 refine ye ?_
   refine zU ?_;refine HH.rd 13 (fun K hK=>?_)
   go_simp
   go_at_call 117;refine (zj9 base m L F T _ _ _ (C.o.below hHeld.1.out) (HA.o.below hHeld.1.out) (aE.o.le2 (by omega)) HF.o.fden ap.o).mono ?_;rintro e w1 ⟨v,rfl,R,O⟩;have J:=ze R;clear R;have b:=ze (aw.o.below (ext hHeld.1.out O) aw.o.lt);have X:=hHeld;clear hHeld;refine hK.out _ _ (zl (zr O X.1) (fun hB=>⟨zh hB bL t0,zh hB N t3,zh hB mL t4,zh hB M a0,zh hB M a1,zh hB M a2⟩)) (fun hHeld=>?_);clear X hK K
   try simp only [Act.put,xST]
   clear O;have E:=(hHeld.1).out
   try clear z I
   replace l:=ze (xo.below l.o E);replace r:=kb_ r E;replace u:=eb_ u E;replace C:=ze (yi.below C.o E);clear E hHeld;refine HH.done (by kernel_rfl) ?_;simp only [List.drop_succ_cons,List.drop_zero];obtain ⟨z,I⟩:=zyh r.o;clear aJ t0 t3 t4 a0 a1 a2 bL N mL M HA aE ap Q I z;have aB:=HB.o i af;have ab:=b.o.cell 0;have ae:=r.o.cell 0;simp at ab ae
   have au:Calls Tryz.prog 116 #[.int .i64 (T.basic i:Nat),v,.pointer (some ⟨bT,0,none⟩),.pointer (some ⟨G,0,none⟩)] w1 (zi5 g F.nn (ze0 T F.nn (i+1)) w1):=by
    rcases aB with ⟨h1,Q⟩ | ⟨k,h1,Q⟩
    . have e:ze0 T F.nn (i+1)=ze0 T F.nn i:=by
       funext j
       show (if T.basic i<2*F.nn/\j=T.basic i / 2 then _ else _)=_
       rw [if_neg (by omega)]
      rw [e];exact zqb base m L F T bT G g (T.basic i) _ v _ w1 C.o ab l.o J.o h1 Q
    . have e:ze0 T F.nn (i+1)=fun j=>if j=k then ze0 T F.nn i j+Rat.divInt (T.cell i 0) T.den else ze0 T F.nn i j:=by
       funext j
       show (if T.basic i<2*F.nn/\j=T.basic i / 2 then _ else _)=_
       by_cases ej:j=k
       . rw [if_pos (by omega),if_pos ej]
       . rw [if_neg (by omega),if_neg ej]
      rw [e];exact zqo base m L F T bT G g k (T.basic i) _ v _ w1 C.o ab ae l.o J.o h1 Q aG (HL.o i k (by omega) Q) (HV.o i af)
   have ao:=ze au;clear aB ab ae au J
   have V:∀ t cs,Blk w1 bT t cs->t≠55->¬ bT=g:=fun t cs h hne e=>by
    subst e;obtain ⟨aI,k1⟩:=l.o.heap;exact yX h k1 hne rfl
   have aC:=ze (V _ _ b.o (by decide));clear V l C;go_wp2_with fail;refine ao.o.mono ?_;rintro e w2 ⟨rfl,aj,Z⟩;have l:=ze aj;replace b:=ze (Z.blk b.o aC.o);replace r:=ze (Z.blk r.o (by have:=ad.o;omega));replace u:=ze (zaf u.o Z HG.o);clear aj Z ao aC;go_wp2_with fail;go_roundw
   case rel=>first | exact ⟨i+1,by omega,by go_num,l,b,r,u⟩ | ((repeat apply Exists.intro);exact ⟨⟨i+1,by omega,by go_num,l,b,r,u⟩,rfl⟩)
   case measure=>simp [intOf];omega
end Go.Proofs.YthbmhkiphmcogaaGreatDoor
