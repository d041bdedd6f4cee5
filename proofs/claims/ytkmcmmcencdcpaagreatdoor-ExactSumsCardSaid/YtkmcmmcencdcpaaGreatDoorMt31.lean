/- Parts of the proof: memory, numbers, walks of the functions that are called. -/
import Derived.Deep.CutRange
import Derived.Test.YtkmcmmcencdcpaaGreatDoorMt17
import Derived.Test.YtkmcmmcencdcpaaGreatDoorMt19
set_option linter.unusedVariables false
set_option linter.unusedSimpArgs false
namespace Go.Proofs.YtkmcmmcencdcpaaGreatDoor
open Go.RowKit Go.Deep
attribute [local go_sem ↓] Go.wp_at_zero Go.wp_at_succ
theorem Fit.le {z:Int} (h:Fit z) {M:Nat} (hM:8388608<=M):len 4294967296 z.natAbs<=M:=Nat.le_trans h hM
theorem Yc {a b:Int} (ha:Fit a) (hb:Fit b):len 4294967296 (a*b).natAbs<=16777216:=Z6 (M:=8388608) (K:=8388608) ha hb
theorem zqr {a b:Int} {M:Nat} (ha:len 4294967296 a.natAbs<=M) (hb:len 4294967296 b.natAbs<=M):len 4294967296 (a - b).natAbs<=M+1:=by
 rw [Int.sub_eq_add_neg]
 exact zia ha (by rw [Int.natAbs_neg];exact hb)
def PivA (w0:World) (base m L:Nat) (F:zS) (cs:Array Value) (T:yy) (r c gp:Nat) (iv:Value) (wr:World):Prop:=
 ∃ i:Nat,i<=m+1/\iv= .int .i64 i/\Hid (Pv w0 base m L F cs (T.stA r c i 0) wr)/\Hid (Zw wr gp (T.cell r c))
def PivB (w0:World) (base m L:Nat) (F:zS) (cs:Array Value) (T:yy) (r c gp i gf:Nat) (kv:Value) (wr:World):Prop:=
 ∃ k:Nat,k<=L/\kv= .int .i64 k/\Hid (Pv w0 base m L F cs (T.stA r c i k) wr)/\Hid (Zw wr gp (T.cell r c))/\Hid (Zw wr gf (T.cell i c))
def PivR (w0:World) (base m L:Nat) (F:zS) (cs:Array Value) (T:yy) (r c gp:Nat) (kv:Value) (wr:World):Prop:=
 ∃ k:Nat,k<=L/\kv= .int .i64 k/\Hid (Pv w0 base m L F cs (T.stB r c k) wr)/\Hid (Zw wr gp (T.cell r c))
def PivD (w0:World) (base m L:Nat) (F:zS) (cs:Array Value) (A:Nat->Nat->Int) (iv:Value) (wr:World):Prop:=∃ i:Nat,i<=m+1/\iv= .int .i64 i/\Hid (Pv w0 base m L F cs (stD A i 0) wr)
def PivE (w0:World) (base m L:Nat) (F:zS) (cs:Array Value) (A:Nat->Nat->Int) (i:Nat) (kv:Value) (wr:World):Prop:=∃ k:Nat,k<=L/\kv= .int .i64 k/\Hid (Pv w0 base m L F cs (stD A i k) wr)
theorem zli {T:yy} {r c:Nat} (h:¬ T.cell r c<0):(T.pivot r c).den=T.cell r c/\∀ i k,(T.pivot r c).cell i k=T.bare r c i k:=by
 unfold yy.pivot
 exact ⟨by simp only [if_neg h],fun i k=>by simp only [if_neg h]⟩
theorem zjy {T:yy} {r c:Nat} (h:T.cell r c<0):(T.pivot r c).den= -(T.cell r c)/\∀ i k,(T.pivot r c).cell i k= -(T.bare r c i k):=by
 unfold yy.pivot
 exact ⟨by simp only [if_pos h],fun i k=>by simp only [if_pos h]⟩
def zrk (base m L:Nat) (F:zS) (T:yy) (w:World) (e:Ending) (w' :World):Prop:=e= .returned (.tuple #[])/\yb base m L F w' T/\Chg (F.S m) w w'
set_option maxRecDepth 100000 in
set_option maxHeartbeats 8000000 in
theorem zgp (base m L:Nat) (F:zS) (T:yy) (r c:Nat) (w:World) (hT:yb base m L F w T) (hf:T.Fits m L) (hr:r<m) (hc0:0<c) (hc:c<L) (hm:m<=100000) (hL:L<=100000) (hb:base<=w.heap.size):
 Calls Tryz.prog 186 #[.pointer (some ⟨F.gt,0,none⟩),.int .i64 r,.int .i64 c] w (zrk base m L F (T.pivot r c) w):=by
 obtain ⟨⟨dx,dA,dn,dc,dg,hblk,hden⟩,hmat,hbas,hoth,hne,hlo,hcols⟩:=hT
 have HV:Hid (Pv w base m L F (F.cells m dx dA dn dc dg) T.cell w):=⟨hmat,hblk,Chg.refl w,fun i hi=>⟨(hmat.rows i (by omega)).2.lt,(hmat.rows i (by omega)).2.heap⟩,hblk.lt,hmat.lt.2,hb⟩
 have HD:=ze hden
 have HBA:=ze hbas
 have HOT:=ze hoth
 have HNE:=ze hne
 have HLO:=ze hlo
 have HNO:=ze hcols
 have HF:=ze hf
 have HB:=ze hb
 have HND:Hid (∀ b,F.rows m b->yn w b):=fun b ⟨i,hi,e⟩=>by subst e;exact HV.out.noDig hi
 clear hblk hden hmat hbas hoth hne hlo hcols hf hb
 obtain ⟨cs,HCS⟩:∃ cs,Hid (F.cells m dx dA dn dc dg=cs):=⟨_,rfl⟩
 rw [HCS.out] at HV
 have t3:w.cell? ⟨F.gt,3,none⟩=some (.slice (some ⟨F.gm,0,none⟩) (m+1) F.cm):=by rw [HV.out.tab.cell, <- HCS.out];rfl
 have t4:=HV.out.mat.cell (i:=r) (by omega)
 obtain ⟨px,pA,pn,pc,pg,p0,p1,p2,hp⟩:=HV.out.mat.at_ (i:=r) (k:=c) (by omega) hc
 have hri:(r:Int)<(m:Int)+1:=by omega
 have hci:(c:Int)<(L:Int):=by omega
 have hx:=zf w (.cells #[.int .i64 px,.slice pA pn pc,.bool pg] 91)
 have HP:Hid (Zw (w.alloc (.cells #[.int .i64 px,.slice pA pn pc,.bool pg] 91)) w.heap.size (T.cell r c)):=⟨px,pA,pn,pc,pg,Blk.new _ _ _,hp.below hx⟩
 have HV1:=ze (HV.out.below hx)
 clear hp HV hx
 go_enter Tryz.func186,Tryz.ntmps186
 go_upto_region 1 with fail
 clear t3 t4 p0 p1 p2
 generalize w.alloc (.cells #[.int .i64 px,.slice pA pn pc,.bool pg] 91)=W1 at HP HV1 |-
 have HGP:=ze (Nat.le_refl w.heap.size)
 generalize hgp:w.heap.size=gp at HP |-
 have HGP:Hid (w.heap.size<=gp):=ze (Nat.le_of_eq hgp)
 clear hgp
 have t3:W1.cell? ⟨F.gt,3,none⟩=some (.slice (some ⟨F.gm,0,none⟩) (m+1) F.cm):=by rw [HV1.out.tab.cell, <- HCS.out];rfl
 go_wp2_with fail
 go_loopw [32] (PivA w base m L F cs T r c gp) (fun iv _=>m+1 - (intOf iv).toNat)
 case atStart=>exact ⟨0,Nat.zero_le _,rfl,HV1.out.congr fun i k _ _=>T.stA_start r c i k,HP⟩
 case round=>
  clear HV1 HP t3
  obtain ⟨i,hi,rfl,HV,HP⟩:=hrel
  by_cases hil:i<m+1
  . have hii:(i:Int)<(m:Int)+1:=by omega
    have t4:=HV.out.mat.cell (i:=i) hil
    by_cases hir:i=r
    . have hd:((i:Int) == (r:Int))=true:=by rw [beq_iff_eq];omega
      have HV1:Hid (Pv w base m L F cs (T.stA r c (i+1) 0) wr):=HV.out.congr fun i' k' _ _=>by subst hir;exact T.stA_skip i c i' k'
      clear hir HV;go_wp2_with fail;go_round
      case rel=>exact ⟨i+1,by omega,by go_num,HV1,HP⟩
      case measure=>simp [intOf];omega
    . have hd:((i:Int) == (r:Int))=false:=by rw [beq_eq_false_iff_ne];omega
      have HIR:=ze hir;obtain ⟨fx,fA,fn,fc,fg,f0,f1,f2,hfn⟩:=HV.out.mat.at_ (i:=i) (k:=c) hil hc;rw [T.stA_col0] at hfn;have hx:=zf wr (.cells #[.int .i64 fx,.slice fA fn fc,.bool fg] 91);have HFB:Hid (Zw (wr.alloc (.cells #[.int .i64 fx,.slice fA fn fc,.bool fg] 91)) wr.heap.size (T.cell i c)):=⟨fx,fA,fn,fc,fg,Blk.new _ _ _,hfn.below hx⟩;have HV1:=ze (HV.out.below hx);have HP1:=ze (HP.out.below hx);have HGF:=ze HV.out.ge;clear hfn HV HP hx hir
      go_upto_region 6 with fail
      clear f0 f1 f2;generalize wr.alloc (.cells #[.int .i64 fx,.slice fA fn fc,.bool fg] 91)=W2 at HFB HV1 HP1 |-;generalize wr.heap.size=gf at HFB HGF |-;clear t4;go_wp2_with fail
      go_loopw [46] (PivB w base m L F cs T r c gp i gf) (fun kv _=>L - (intOf kv).toNat)
      case atStart=>exact ⟨0,Nat.zero_le _,rfl,HV1,HP1,HFB⟩
      case round=>
       clear HV1 HP1 HFB;obtain ⟨k,hk,rfl,HV,HP,HFB⟩:=hrel
       by_cases hkl:k<L
       . have hki:(k:Int)<(L:Int):=by omega
         by_cases hkc:k=c
         . have hd2:((k:Int) == (c:Int))=true:=by rw [beq_iff_eq];omega
           have HV1:Hid (Pv w base m L F cs (T.stA r c i (k+1)) wr):=HV.out.congr fun i' k' _ _=>by subst hkc;exact T.stA_col r k i HIR.out i' k'
           clear hkc HV;go_wp2_with fail;go_round
           case rel=>exact ⟨k+1,by omega,by go_num,HV1,HP,HFB⟩
           case measure=>simp [intOf];omega
         . have hd2:((k:Int) == (c:Int))=false:=by rw [beq_eq_false_iff_ne];omega
           have HKC:=ze hkc;clear hkc;have t3:wr.cell? ⟨F.gt,3,none⟩=some (.slice (some ⟨F.gm,0,none⟩) (m+1) F.cm):=by rw [HV.out.tab.cell, <- HCS.out];rfl
           have t4:=HV.out.mat.cell (i:=r) (by omega);obtain ⟨ax,aA,an,ac,ag,a0,a1,a2,ha⟩:=HV.out.mat.at_ (i:=i) (k:=k) hil hkl;rw [T.stA_here] at ha;obtain ⟨bx,bA,bn,bc,bg,b0,b1,b2,hbn⟩:=HV.out.mat.at_ (i:=r) (k:=k) (by omega) hkl;rw [T.stA_row] at hbn;obtain ⟨px,pA,pn,pc,pg,hkp,hpn⟩:=HP.out;obtain ⟨fx,fA,fn,fc,fg,hkf,hfn⟩:=HFB.out;have q0:=hkp.cell 0;have q1:=hkp.cell 1;have q2:=hkp.cell 2;have e0:=hkf.cell 0;have e1:=hkf.cell 1;have e2:=hkf.cell 2;simp at q0 q1 q2 e0 e1 e2;have tL:=HV.out.tab.lt;have mL:=HV.out.mat.lt.2;have aL:=(HV.out.mat.rows i hil).2.lt;have bL:=(HV.out.mat.rows r (by omega)).2.lt;have pL:=hkp.lt;have fL:=hkf.lt;have HLP:=ze pL;have HLF:=ze fL;have HA:=ze ha;have HBN:=ze hbn;have HPN:=ze hpn;have HFN:=ze hfn;have N1:=ze (HF.out.cell i k (by omega) hkl);have N2:=ze (HF.out.cell r c (by omega) hc);have N3:=ze (HF.out.cell i c (by omega) hc);have N4:=ze (HF.out.cell r k (by omega) hkl);clear ha hbn hkp hpn hkf hfn
           go_upto_region 10 with fail
           go_cut [11,46] from 46 to 83 (fun sx si wc=>si= .int .i64 k/\∃ gx,sx= .pointer (some ⟨gx,0,none⟩)/\Hid (w.heap.size<=gx)/\Hid (Zw wc gx (T.cell i k*T.cell r c - T.cell i c*T.cell r k))/\Hid (Pv w base m L F cs (T.stA r c i k) wc)/\Hid (Zw wc gp (T.cell r c))/\Hid (Zw wc gf (T.cell i c)))
           case first=>
            skip
            refine zr (S:=fun w' =>Hid (Below wr.heap.size wr w')/\w'.cell? ⟨F.gt,3,none⟩=some (.slice (some ⟨F.gm,0,none⟩) (m+1) F.cm)/\w'.cell? ⟨F.gm,r,none⟩=some (.slice (some ⟨F.g r,0,none⟩) L L)/\w'.cell? ⟨F.g i,k*3,none⟩=some (.int .i64 ax)/\w'.cell? ⟨F.g i,k*3+1,none⟩=some (.slice aA an ac)/\w'.cell? ⟨F.g i,k*3+2,none⟩=some (.bool ag)/\w'.cell? ⟨F.g r,k*3,none⟩=some (.int .i64 bx)/\w'.cell? ⟨F.g r,k*3+1,none⟩=some (.slice bA bn bc)/\w'.cell? ⟨F.g r,k*3+2,none⟩=some (.bool bg)/\w'.cell? ⟨gp,0,none⟩=some (.int .i64 px)/\w'.cell? ⟨gp,1,none⟩=some (.slice pA pn pc)/\w'.cell? ⟨gp,2,none⟩=some (.bool pg)/\w'.cell? ⟨gf,0,none⟩=some (.int .i64 fx)/\w'.cell? ⟨gf,1,none⟩=some (.slice fA fn fc)/\w'.cell? ⟨gf,2,none⟩=some (.bool fg)) 5 15 20 rfl (by kernel_rfl) (by kernel_rfl) (by kernel_rfl) rfl (zm (zv wr) (fun hB=>⟨zh hB tL t3,zh hB mL t4,zh hB aL a0,zh hB aL a1,zh hB aL a2,zh hB bL b0,zh hB bL b1,zh hB bL b2,zh hB pL q0,zh hB pL q1,zh hB pL q2,zh hB fL e0,zh hB fL e1,zh hB fL e2⟩)) ?_ (fun hHeld=>?_)
            . intro _ _ _ _ _ h9;exact h9
            simp only [List.take_succ_cons,List.take_zero]
            iterate 5 refine zW ?_
            refine zM ?_;refine HH.tk 6 ?_;refine HH.tk 7 ?_;refine HH.tk 8 ?_;refine HH.tk 9 ?_;refine HH.tk 10 ?_;refine HH.tk 11 ?_;refine HH.tk 12 ?_;refine HH.tk 13 ?_;refine HH.tk 14 ?_;refine HH.tk 15 ?_;refine HH.tk 16 ?_;have HGW:=ze HV.out.ge;refine HH.ready (rs:=[5,19]) (by kernel_rfl) (by simp) (by kernel_rfl) ?_;refine yO.cons (o:=_) rfl (fun K hK=>?_) (yO.cons (o:=_) rfl (fun K hK=>?_) yO.nil)
            . skip
              go_simp
              go_at_call 130;refine (x7 _ _ _ _ _ (HA.out.below hHeld.1.out) (HPN.out.below hHeld.1.out) (N1.out.le (by omega)) (N2.out.le (by omega))).mono ?_;rintro e w1 ⟨v1,rfl,hv,hb1⟩;have HX1:=ze hv;clear hv;have hH0:=hHeld;clear hHeld;refine hK.out _ _ (zm (zt hb1 hH0.1) (fun hB=>⟨zh hB tL t3,zh hB mL t4,zh hB aL a0,zh hB aL a1,zh hB aL a2,zh hB bL b0,zh hB bL b1,zh hB bL b2,zh hB pL q0,zh hB pL q1,zh hB pL q2,zh hB fL e0,zh hB fL e1,zh hB fL e2⟩)) (fun hHeld=>?_);clear hH0 hK K
              try simp only [Act.put,List.setIfInBounds_toArray,List.set_cons_zero,List.set_cons_succ]
              clear hb1;refine HH.ready (rs:=[17,19]) (by kernel_rfl) (by simp) (by kernel_rfl) ?_;refine yO.cons (o:=_) rfl (fun K hK=>?_) (yO.cons (o:=_) rfl (fun K hK=>?_) yO.nil)
              . skip
                go_simp
                go_at_call 130;refine (x7 _ _ _ _ _ (HFN.out.below hHeld.1.out) (HBN.out.below hHeld.1.out) (N3.out.le (by omega)) (N4.out.le (by omega))).mono ?_;rintro e w2 ⟨v2,rfl,hv,hb2⟩;replace HX1:=ze (HX1.out.below hb2);have HX2:=ze hv;clear hv;have hH0:=hHeld;clear hHeld;refine hK.out _ _ (zm (zt hb2 hH0.1) (fun hB=>⟨zh hB tL t3,zh hB mL t4,zh hB aL a0,zh hB aL a1,zh hB aL a2,zh hB bL b0,zh hB bL b1,zh hB bL b2,zh hB pL q0,zh hB pL q1,zh hB pL q2,zh hB fL e0,zh hB fL e1,zh hB fL e2⟩)) (fun hHeld=>?_);clear hH0 hK K
                try simp only [Act.put,List.setIfInBounds_toArray,List.set_cons_zero,List.set_cons_succ]
                clear hb2;refine HH.ready (rs:=[18,19]) (by kernel_rfl) (by simp) (by kernel_rfl) ?_;refine yO.cons (o:=_) rfl (fun K hK=>?_) (yO.cons (o:=_) rfl (fun K hK=>?_) yO.nil)
                . skip
                  go_simp
                  go_at_call 178;refine (zag _ _ _ _ _ HX1.out HX2.out (Nat.le_trans (Yc N1.out N2.out) (by omega)) (Nat.le_trans (Yc N3.out N4.out) (by omega))).mono ?_;rintro e w3 ⟨v3,rfl,hv,hb3⟩;have HX3:=ze hv;clear hv;clear HX1 HX2;have hH0:=hHeld;clear hHeld;refine hK.out _ _ (zm (zt hb3 hH0.1) (fun hB=>⟨zh hB tL t3,zh hB mL t4,zh hB aL a0,zh hB aL a1,zh hB aL a2,zh hB bL b0,zh hB bL b1,zh hB bL b2,zh hB pL q0,zh hB pL q1,zh hB pL q2,zh hB fL e0,zh hB fL e1,zh hB fL e2⟩)) (fun hHeld=>?_);clear hH0 hK K
                  try simp only [Act.put,List.setIfInBounds_toArray,List.set_cons_zero,List.set_cons_succ]
                  clear hb3;have HBY:=hHeld.1.out;replace HV:=ze (Pv.below HV.out HBY);replace HP:=ze (Zw.below HP.out HBY);replace HFB:=ze (Zw.below HFB.out HBY);clear HBY;refine HH.rd 19 (fun K hK=>?_)
                  go_simp
                  have hxa:=zf w3 (.cells #[.int .i64 0,.slice none 0 0,.bool false] 91);clear hxa;have hH0:=hHeld;clear hHeld;refine hK.out _ _ (zm (za7 hH0.1) (fun hB=>⟨zh hB tL t3,zh hB mL t4,zh hB aL a0,zh hB aL a1,zh hB aL a2,zh hB bL b0,zh hB bL b1,zh hB bL b2,zh hB pL q0,zh hB pL q1,zh hB pL q2,zh hB fL e0,zh hB fL e1,zh hB fL e2⟩)) (fun hHeld=>?_);clear hH0 hK K
                  try simp only [Act.put,List.setIfInBounds_toArray,List.set_cons_zero,List.set_cons_succ]
                  refine HH.done (by kernel_rfl) ?_;simp only [List.drop_succ_cons,List.drop_zero];clear HA HBN HPN HFN N1 N2 N3 N4 a0 a1 a2 b0 b1 b2 q0 q1 q2 e0 e1 e2 tL mL aL bL pL fL t3 t4 hHeld;have hge:=HV.out.ge;obtain ⟨sx,sA,sn,sc,sg,rfl,_,_,_⟩:=HX3.out.form;go_wp2_with fail;go_meet;have hx:=zf w3 (.cells #[.int .i64 sx,.slice sA sn sc,.bool sg] 91);exact ⟨rfl,w3.heap.size,rfl,hge,⟨sx,sA,sn,sc,sg,Blk.new _ _ _,HX3.out.below hx⟩,HV.out.below hx,HP.out.below hx,HFB.out.below hx⟩
                . skip
                  go_simp
                  have hxa:=zf w2 (.cells #[.int .i64 0,.slice none 0 0,.bool false] 91);have HKB:Hid (Blk _ w2.heap.size 91 #[.int .i64 0,.slice none 0 0,.bool false]):=Blk.new w2 _ _;have HGX:Hid (wr.heap.size<=w2.heap.size):=hHeld.1.out.size;replace HX1:=ze (HX1.out.below hxa);replace HX2:=ze (HX2.out.below hxa);clear hxa;have hH0:=hHeld;clear hHeld;refine hK.out _ _ (zm (za7 hH0.1) (fun hB=>⟨zh hB tL t3,zh hB mL t4,zh hB aL a0,zh hB aL a1,zh hB aL a2,zh hB bL b0,zh hB bL b1,zh hB bL b2,zh hB pL q0,zh hB pL q1,zh hB pL q2,zh hB fL e0,zh hB fL e1,zh hB fL e2⟩)) (fun hHeld=>?_);clear hH0 hK K
                  try simp only [Act.put,List.setIfInBounds_toArray,List.set_cons_zero,List.set_cons_succ]
                  refine HH.rd 18 (fun K hK=>?_)
                  go_simp
                  go_at_call 178;refine (zag _ _ _ _ _ HX1.out HX2.out (Nat.le_trans (Yc N1.out N2.out) (by omega)) (Nat.le_trans (Yc N3.out N4.out) (by omega))).mono ?_;rintro e w3 ⟨v3,rfl,hv,hb3⟩;have HX3:=ze hv;clear hv;clear HX1 HX2;replace HKB:=kb_ HKB hb3;have hH0:=hHeld;clear hHeld;refine hK.out _ _ (zm (zt hb3 hH0.1) (fun hB=>⟨zh hB tL t3,zh hB mL t4,zh hB aL a0,zh hB aL a1,zh hB aL a2,zh hB bL b0,zh hB bL b1,zh hB bL b2,zh hB pL q0,zh hB pL q1,zh hB pL q2,zh hB fL e0,zh hB fL e1,zh hB fL e2⟩)) (fun hHeld=>?_);clear hH0 hK K
                  try simp only [Act.put,List.setIfInBounds_toArray,List.set_cons_zero,List.set_cons_succ]
                  clear hb3;have HBY:=hHeld.1.out;replace HV:=ze (Pv.below HV.out HBY);replace HP:=ze (Zw.below HP.out HBY);replace HFB:=ze (Zw.below HFB.out HBY);clear HBY;refine HH.done (by kernel_rfl) ?_;simp only [List.drop_succ_cons,List.drop_zero];clear HA HBN HPN HFN N1 N2 N3 N4 a0 a1 a2 b0 b1 b2 q0 q1 q2 e0 e1 e2 tL mL aL bL pL fL t3 t4 hHeld;have hge:=HV.out.ge;obtain ⟨sx,sA,sn,sc,sg,rfl,_,_,_⟩:=HX3.out.form;have r0:=HKB.out.cell 0;have r1:=HKB.out.cell 1;have r2:=HKB.out.cell 2;have z0:=HKB.out.frozen 0;have z1:=HKB.out.frozen 1;have z2:=HKB.out.frozen 2;simp at r0 r1 r2;have HGY:Hid (w.heap.size<=w2.heap.size):=by have:=HGX.out;have:=HGW.out;show _<=_;omega
                  go_wp2_with fail;go_meet;have hnd:=HKB.out.noDig (Xf _ _ _ _ _);have n1:gp≠w2.heap.size:=by have:=HLP.out;have:=HGX.out;omega
                  have n2:gf≠w2.heap.size:=by have:=HLF.out;have:=HGX.out;omega
                  exact ⟨rfl,w2.heap.size,rfl,HGY,VX HKB.out HX3.out,HV.out.box Zx HGY.out hnd,HP.out.chg Zx n1 (fun b e=>by subst e;exact hnd),HFB.out.chg Zx n2 (fun b e=>by subst e;exact hnd)⟩
              . skip
                go_simp
                have hxa:=zf w1 (.cells #[.int .i64 0,.slice none 0 0,.bool false] 91);have HKB:Hid (Blk _ w1.heap.size 91 #[.int .i64 0,.slice none 0 0,.bool false]):=Blk.new w1 _ _;have HGX:Hid (wr.heap.size<=w1.heap.size):=hHeld.1.out.size;replace HX1:=ze (HX1.out.below hxa);clear hxa;have hH0:=hHeld;clear hHeld;refine hK.out _ _ (zm (za7 hH0.1) (fun hB=>⟨zh hB tL t3,zh hB mL t4,zh hB aL a0,zh hB aL a1,zh hB aL a2,zh hB bL b0,zh hB bL b1,zh hB bL b2,zh hB pL q0,zh hB pL q1,zh hB pL q2,zh hB fL e0,zh hB fL e1,zh hB fL e2⟩)) (fun hHeld=>?_);clear hH0 hK K
                try simp only [Act.put,List.setIfInBounds_toArray,List.set_cons_zero,List.set_cons_succ]
                refine HH.rd 17 (fun K hK=>?_)
                go_simp
                go_at_call 130;refine (x7 _ _ _ _ _ (HFN.out.below hHeld.1.out) (HBN.out.below hHeld.1.out) (N3.out.le (by omega)) (N4.out.le (by omega))).mono ?_;rintro e w2 ⟨v2,rfl,hv,hb2⟩;replace HX1:=ze (HX1.out.below hb2);have HX2:=ze hv;clear hv;replace HKB:=kb_ HKB hb2;have hH0:=hHeld;clear hHeld;refine hK.out _ _ (zm (zt hb2 hH0.1) (fun hB=>⟨zh hB tL t3,zh hB mL t4,zh hB aL a0,zh hB aL a1,zh hB aL a2,zh hB bL b0,zh hB bL b1,zh hB bL b2,zh hB pL q0,zh hB pL q1,zh hB pL q2,zh hB fL e0,zh hB fL e1,zh hB fL e2⟩)) (fun hHeld=>?_);clear hH0 hK K
                try simp only [Act.put,List.setIfInBounds_toArray,List.set_cons_zero,List.set_cons_succ]
                clear hb2;refine HH.rd 18 (fun K hK=>?_)
                go_simp
                go_at_call 178;refine (zag _ _ _ _ _ HX1.out HX2.out (Nat.le_trans (Yc N1.out N2.out) (by omega)) (Nat.le_trans (Yc N3.out N4.out) (by omega))).mono ?_;rintro e w3 ⟨v3,rfl,hv,hb3⟩;have HX3:=ze hv;clear hv;clear HX1 HX2;replace HKB:=kb_ HKB hb3;have hH0:=hHeld;clear hHeld;refine hK.out _ _ (zm (zt hb3 hH0.1) (fun hB=>⟨zh hB tL t3,zh hB mL t4,zh hB aL a0,zh hB aL a1,zh hB aL a2,zh hB bL b0,zh hB bL b1,zh hB bL b2,zh hB pL q0,zh hB pL q1,zh hB pL q2,zh hB fL e0,zh hB fL e1,zh hB fL e2⟩)) (fun hHeld=>?_);clear hH0 hK K
                try simp only [Act.put,List.setIfInBounds_toArray,List.set_cons_zero,List.set_cons_succ]
                clear hb3;have HBY:=hHeld.1.out;replace HV:=ze (Pv.below HV.out HBY);replace HP:=ze (Zw.below HP.out HBY);replace HFB:=ze (Zw.below HFB.out HBY);clear HBY;refine HH.done (by kernel_rfl) ?_;simp only [List.drop_succ_cons,List.drop_zero];clear HA HBN HPN HFN N1 N2 N3 N4 a0 a1 a2 b0 b1 b2 q0 q1 q2 e0 e1 e2 tL mL aL bL pL fL t3 t4 hHeld;have hge:=HV.out.ge;obtain ⟨sx,sA,sn,sc,sg,rfl,_,_,_⟩:=HX3.out.form;have r0:=HKB.out.cell 0;have r1:=HKB.out.cell 1;have r2:=HKB.out.cell 2;have z0:=HKB.out.frozen 0;have z1:=HKB.out.frozen 1;have z2:=HKB.out.frozen 2;simp at r0 r1 r2;have HGY:Hid (w.heap.size<=w1.heap.size):=by have:=HGX.out;have:=HGW.out;show _<=_;omega
                go_wp2_with fail;go_meet;have hnd:=HKB.out.noDig (Xf _ _ _ _ _);have n1:gp≠w1.heap.size:=by have:=HLP.out;have:=HGX.out;omega
                have n2:gf≠w1.heap.size:=by have:=HLF.out;have:=HGX.out;omega
                exact ⟨rfl,w1.heap.size,rfl,HGY,VX HKB.out HX3.out,HV.out.box Zx HGY.out hnd,HP.out.chg Zx n1 (fun b e=>by subst e;exact hnd),HFB.out.chg Zx n2 (fun b e=>by subst e;exact hnd)⟩
            . skip
              go_simp
              have HKB:Hid (Blk _ wr.heap.size 91 #[.int .i64 0,.slice none 0 0,.bool false]):=(Blk.new wr 91 #[.int .i64 0,.slice none 0 0,.bool false]).drew;have HGX:Hid (wr.heap.size<=wr.heap.size):=Nat.le_refl _;have hH0:=hHeld;clear hHeld;refine hK.out _ _ (zm (yF wr _) (fun hB=>⟨zh hB tL t3,zh hB mL t4,zh hB aL a0,zh hB aL a1,zh hB aL a2,zh hB bL b0,zh hB bL b1,zh hB bL b2,zh hB pL q0,zh hB pL q1,zh hB pL q2,zh hB fL e0,zh hB fL e1,zh hB fL e2⟩)) (fun hHeld=>?_);clear hH0 hK K
              try simp only [Act.put,List.setIfInBounds_toArray,List.set_cons_zero,List.set_cons_succ]
              refine HH.rd 5 (fun K hK=>?_)
              go_simp
              go_at_call 130;refine (x7 _ _ _ _ _ (HA.out.below hHeld.1.out) (HPN.out.below hHeld.1.out) (N1.out.le (by omega)) (N2.out.le (by omega))).mono ?_;rintro e w1 ⟨v1,rfl,hv,hb1⟩;have HX1:=ze hv;clear hv;replace HKB:=kb_ HKB hb1;have hH0:=hHeld;clear hHeld;refine hK.out _ _ (zm (zt hb1 hH0.1) (fun hB=>⟨zh hB tL t3,zh hB mL t4,zh hB aL a0,zh hB aL a1,zh hB aL a2,zh hB bL b0,zh hB bL b1,zh hB bL b2,zh hB pL q0,zh hB pL q1,zh hB pL q2,zh hB fL e0,zh hB fL e1,zh hB fL e2⟩)) (fun hHeld=>?_);clear hH0 hK K
              try simp only [Act.put,List.setIfInBounds_toArray,List.set_cons_zero,List.set_cons_succ]
              clear hb1;refine HH.rd 17 (fun K hK=>?_)
              go_simp
              go_at_call 130;refine (x7 _ _ _ _ _ (HFN.out.below hHeld.1.out) (HBN.out.below hHeld.1.out) (N3.out.le (by omega)) (N4.out.le (by omega))).mono ?_;rintro e w2 ⟨v2,rfl,hv,hb2⟩;replace HX1:=ze (HX1.out.below hb2);have HX2:=ze hv;clear hv;replace HKB:=kb_ HKB hb2;have hH0:=hHeld;clear hHeld;refine hK.out _ _ (zm (zt hb2 hH0.1) (fun hB=>⟨zh hB tL t3,zh hB mL t4,zh hB aL a0,zh hB aL a1,zh hB aL a2,zh hB bL b0,zh hB bL b1,zh hB bL b2,zh hB pL q0,zh hB pL q1,zh hB pL q2,zh hB fL e0,zh hB fL e1,zh hB fL e2⟩)) (fun hHeld=>?_);clear hH0 hK K
              try simp only [Act.put,List.setIfInBounds_toArray,List.set_cons_zero,List.set_cons_succ]
              clear hb2;refine HH.rd 18 (fun K hK=>?_)
              go_simp
              go_at_call 178;refine (zag _ _ _ _ _ HX1.out HX2.out (Nat.le_trans (Yc N1.out N2.out) (by omega)) (Nat.le_trans (Yc N3.out N4.out) (by omega))).mono ?_;rintro e w3 ⟨v3,rfl,hv,hb3⟩;have HX3:=ze hv;clear hv;clear HX1 HX2;replace HKB:=kb_ HKB hb3;have hH0:=hHeld;clear hHeld;refine hK.out _ _ (zm (zt hb3 hH0.1) (fun hB=>⟨zh hB tL t3,zh hB mL t4,zh hB aL a0,zh hB aL a1,zh hB aL a2,zh hB bL b0,zh hB bL b1,zh hB bL b2,zh hB pL q0,zh hB pL q1,zh hB pL q2,zh hB fL e0,zh hB fL e1,zh hB fL e2⟩)) (fun hHeld=>?_);clear hH0 hK K
              try simp only [Act.put,List.setIfInBounds_toArray,List.set_cons_zero,List.set_cons_succ]
              clear hb3;have HBY:=hHeld.1.out;replace HV:=ze (Pv.below HV.out HBY);replace HP:=ze (Zw.below HP.out HBY);replace HFB:=ze (Zw.below HFB.out HBY);clear HBY;refine HH.done (by kernel_rfl) ?_;simp only [List.drop_succ_cons,List.drop_zero];clear HA HBN HPN HFN N1 N2 N3 N4 a0 a1 a2 b0 b1 b2 q0 q1 q2 e0 e1 e2 tL mL aL bL pL fL t3 t4 hHeld;have hge:=HV.out.ge;obtain ⟨sx,sA,sn,sc,sg,rfl,_,_,_⟩:=HX3.out.form;have r0:=HKB.out.cell 0;have r1:=HKB.out.cell 1;have r2:=HKB.out.cell 2;have z0:=HKB.out.frozen 0;have z1:=HKB.out.frozen 1;have z2:=HKB.out.frozen 2;simp at r0 r1 r2;have HGY:Hid (w.heap.size<=wr.heap.size):=by have:=HGX.out;have:=HGW.out;show _<=_;omega
              go_wp2_with fail;go_meet;have hnd:=HKB.out.noDig (Xf _ _ _ _ _);have n1:gp≠wr.heap.size:=by have:=HLP.out;have:=HGX.out;omega
              have n2:gf≠wr.heap.size:=by have:=HLF.out;have:=HGX.out;omega
              exact ⟨rfl,wr.heap.size,rfl,HGY,VX HKB.out HX3.out,HV.out.box Zx HGY.out hnd,HP.out.chg Zx n1 (fun b e=>by subst e;exact hnd),HFB.out.chg Zx n2 (fun b e=>by subst e;exact hnd)⟩
           case rest=>
            clear HV HP HFB HA HBN HPN HFN N1 N2 N3 N4 a0 a1 a2 b0 b1 b2 q0 q1 q2 e0 e1 e2 tL mL aL bL pL fL t3 t4 HLP HLF;obtain ⟨rfl,gx,rfl,HGX,HXB,HV,HP,HFB⟩:=hcut
            skip
            obtain ⟨xx,xA,xn,xc,xg,hkx,hxn⟩:=HXB.out;have x0:=hkx.cell 0;have x1:=hkx.cell 1;have x2:=hkx.cell 2;simp at x0 x1 x2;have xL:=hkx.lt;have tL:=HV.out.tab.lt;have d4:wc.cell? ⟨F.gt,4,none⟩=some (.int .i64 dx):=by rw [HV.out.tab.cell, <- HCS.out];rfl
            have d5:wc.cell? ⟨F.gt,5,none⟩=some (.slice dA dn dc):=by rw [HV.out.tab.cell, <- HCS.out];rfl
            have d6:wc.cell? ⟨F.gt,6,none⟩=some (.bool dg):=by rw [HV.out.tab.cell, <- HCS.out];rfl
            have HXN:=ze hxn;have HDN:=ze (HV.out.chg.num HD.out HND.out);have NX:=ze (zqr (Yc (HF.out.cell i k (by omega) hkl) (HF.out.cell r c (by omega) hc)) (Yc (HF.out.cell i c (by omega) hc) (HF.out.cell r k (by omega) hkl)));have ND:Hid (T.den≠0):=by have:=HF.out.den;show T.den≠0;omega
            clear hkx hxn
            go_upto_region 11 with fail
            refine Yk (S:=fun w' =>Hid (Below wc.heap.size wc w')/\w'.cell? ⟨gx,0,none⟩=some (.int .i64 xx)/\w'.cell? ⟨gx,1,none⟩=some (.slice xA xn xc)/\w'.cell? ⟨gx,2,none⟩=some (.bool xg)/\w'.cell? ⟨F.gt,4,none⟩=some (.int .i64 dx)/\w'.cell? ⟨F.gt,5,none⟩=some (.slice dA dn dc)/\w'.cell? ⟨F.gt,6,none⟩=some (.bool dg)) 10 12 7 5 12 rfl (by kernel_rfl) rfl rfl rfl (by kernel_rfl) (by kernel_rfl) (by kernel_rfl) rfl (zm (zv wc) (fun hB=>⟨zh hB xL x0,zh hB xL x1,zh hB xL x2,zh hB tL d4,zh hB tL d5,zh hB tL d6⟩)) ?_ ?_ (fun hHeld=>?_)
            . intro _ _ _ _ _ h9;exact h9
            . intro _ _ _ _ h9;exact h9
            simp only [VB,zqc,List.take_succ_cons,List.take_zero]
            iterate 7 refine zW ?_
            refine zM ?_;refine HH.rd 7 (fun K hK=>?_)
            go_simp
            go_at_call 177;refine (V6 _ _ _ _ _ (HXN.out.below hHeld.1.out) (HDN.out.below hHeld.1.out) ND.out (Nat.le_trans NX.out (by omega)) (HF.out.fden.le (by omega))).mono ?_;rintro e w1 ⟨v,v',rfl,hv,hv',hb1⟩;have HX1:=ze hv;clear hv hv';have hH0:=hHeld;clear hHeld;refine hK.out _ _ (zm (zt hb1 hH0.1) (fun hB=>⟨zh hB xL x0,zh hB xL x1,zh hB xL x2,zh hB tL d4,zh hB tL d5,zh hB tL d6⟩)) (fun hHeld=>?_);clear hH0 hK K
            try simp only [Act.put,List.setIfInBounds_toArray,List.set_cons_zero,List.set_cons_succ]
            clear hb1;refine HH.tk 8 ?_;refine HH.tk 9 ?_;refine HH.tk 10 ?_;refine HH.tk 11 ?_;have HBY:=(hHeld.1).out;replace HV:=ze (Pv.below HV.out HBY);replace HP:=ze (Zw.below HP.out HBY);replace HFB:=ze (Zw.below HFB.out HBY);clear HBY hHeld;refine HH.done (by kernel_rfl) ?_;simp only [List.drop_succ_cons,List.drop_zero];clear HXN HDN NX ND x0 x1 x2 d4 d5 d6 xL tL HXB HGX;obtain ⟨sx,sA,sn,sc,sg,rfl,_,_,_⟩:=HX1.out.form;obtain ⟨u0,u1,u2,s0,s1,s2⟩:=(HV.out.mat.rows i hil).2.slots hkl;have z0:=(HV.out.mat.rows i hil).2.frozen (k*3);have z1:=(HV.out.mat.rows i hil).2.frozen (k*3+1);have z2:=(HV.out.mat.rows i hil).2.frozen (k*3+2);have HV2:Hid (Pv w base m L F cs (T.stA r c i (k+1)) (World.numAt w1 (F.g i) k sx sA sn sc sg)):=HV.out.set (by omega) hkl HX1.out (fun i' k' _ _=>T.stA_next r c i k HIR.out HKC.out i' k');have HP2:=ze (HV.out.keepBox (i:=i) (k:=k) (x:=sx) (X:=sA) (n1:=sn) (c:=sc) (ng:=sg) (by omega) HP.out HGP.out);have HF2:=ze (HV.out.keepBox (i:=i) (k:=k) (x:=sx) (X:=sA) (n1:=sn) (c:=sc) (ng:=sg) (by omega) HFB.out HGF.out);clear HV HP HFB HX1
            go_wp2_with fail;go_roundw
            case rel=>exact ⟨k+1,by omega,by go_num,HV2,HP2,HF2⟩
            case measure=>simp [intOf];omega
       . obtain rfl:k=L:=by omega
         skip
         have t4:=HV.out.mat.cell (i:=i) hil;obtain ⟨u0,u1,u2,s0,s1,s2⟩:=(HV.out.mat.rows i hil).2.slots hc;have f0:=(HV.out.mat.rows i hil).2.frozen (c*3);have f1:=(HV.out.mat.rows i hil).2.frozen (c*3+1);have f2:=(HV.out.mat.rows i hil).2.frozen (c*3+2);obtain ⟨fx,fA,fn,fc,fg,hkf,hfn⟩:=HFB.out;have e0:=hkf.cell 0;have e1:=hkf.cell 1;have e2:=hkf.cell 2;simp at e0 e1 e2;have HV2:Hid (Pv w base m k F cs (T.stA r c (i+1) 0) (World.numAt wr (F.g i) c fx fA fn fc fg)):=HV.out.set (by omega) hc hfn fun i' k' _ hk' =>T.stA_end r c i k HIR.out i' k' hk'
         have HP2:=ze (HV.out.keepBox (i:=i) (k:=c) (x:=fx) (X:=fA) (n1:=fn) (c:=fc) (ng:=fg) (by omega) HP.out HGP.out);clear hkf hfn HV HP HFB;go_wp2_with fail;go_round
         case rel=>exact ⟨i+1,by omega,by go_num,HV2,HP2⟩
         case measure=>simp [intOf];omega
  . obtain rfl:i=m+1:=by omega
    skip
    have t3:wr.cell? ⟨F.gt,3,none⟩=some (.slice (some ⟨F.gm,0,none⟩) (m+1) F.cm):=by rw [HV.out.tab.cell, <- HCS.out];rfl
    have t4:=HV.out.mat.cell (i:=r) (by omega);have HV1:Hid (Pv w base m L F cs (T.stB r c 0) wr):=HV.out.congr fun i' k' hi' _=>T.stB_start r c m i' k' hi'
    clear HV;go_wp2_with fail
    go_loopw [98] (PivR w base m L F cs T r c gp) (fun kv _=>L - (intOf kv).toNat)
    case atStart=>exact ⟨0,Nat.zero_le _,rfl,HV1,HP⟩
    case round=>
     clear HV1 HP t3 t4;obtain ⟨k,hk,rfl,HV,HP⟩:=hrel
     by_cases hkl:k<L
     . have hki:(k:Int)<(L:Int):=by omega
       by_cases hkc:k=c
       . have hd2:((k:Int) != (c:Int))=false:=by rw [bne_eq_false_iff_eq];omega
         have HV1:Hid (Pv w base m L F cs (T.stB r c (k+1)) wr):=HV.out.congr fun i' k' _ _=>by subst hkc;exact T.stB_col r k i' k'
         clear hkc HV;go_wp2_with fail;go_round
         case rel=>exact ⟨k+1,by omega,by go_num,HV1,HP⟩
         case measure=>simp [intOf];omega
       . have hd2:((k:Int) != (c:Int))=true:=by rw [bne_iff_ne];omega
         have HKC:=ze hkc;obtain ⟨ax,aA,an,ac,ag,a0,a1,a2,ha⟩:=HV.out.mat.at_ (i:=r) (k:=k) (by omega) hkl;rw [T.stB_here] at ha;clear hkc;go_wp2_with fail;refine (yW _ _ _ ha).mono ?_;rintro e w1 ⟨v,rfl,hv,hb1⟩;replace HV:=ze (HV.out.below hb1);replace HP:=ze (HP.out.below hb1);clear ha a0 a1 a2 hb1;obtain ⟨sx,sA,sn,sc,sg,rfl,_,_,_⟩:=hv.form;obtain ⟨u0,u1,u2,s0,s1,s2⟩:=(HV.out.mat.rows r (by omega)).2.slots hkl;have z0:=(HV.out.mat.rows r (by omega)).2.frozen (k*3);have z1:=(HV.out.mat.rows r (by omega)).2.frozen (k*3+1);have z2:=(HV.out.mat.rows r (by omega)).2.frozen (k*3+2);have HV2:Hid (Pv w base m L F cs (T.stB r c (k+1)) (World.numAt w1 (F.g r) k sx sA sn sc sg)):=HV.out.set (by omega) hkl hv (fun i' k' _ _=>T.stB_next r c k HKC.out i' k');have HP2:=ze (HV.out.keepBox (i:=r) (k:=k) (x:=sx) (X:=sA) (n1:=sn) (c:=sc) (ng:=sg) (by omega) HP.out HGP.out);clear HV HP hv;go_wp2_with fail;go_roundw
         case rel=>(repeat apply Exists.intro);exact ⟨⟨k+1,by omega,by go_num,HV2,HP2⟩,rfl⟩
         case measure=>simp [intOf];omega
     . obtain rfl:L=k:=by omega
       skip
       have d4:wr.cell? ⟨F.gt,4,none⟩=some (.int .i64 dx):=by rw [HV.out.tab.cell, <- HCS.out];rfl
       have d5:wr.cell? ⟨F.gt,5,none⟩=some (.slice dA dn dc):=by rw [HV.out.tab.cell, <- HCS.out];rfl
       have d6:wr.cell? ⟨F.gt,6,none⟩=some (.bool dg):=by rw [HV.out.tab.cell, <- HCS.out];rfl
       have hdn:=HV.out.chg.num HD.out HND.out;obtain ⟨u0,u1,u2,s0,s1,s2⟩:=(HV.out.mat.rows r (by omega)).2.slots hc;have z0:=(HV.out.mat.rows r (by omega)).2.frozen (c*3);have z1:=(HV.out.mat.rows r (by omega)).2.frozen (c*3+1);have z2:=(HV.out.mat.rows r (by omega)).2.frozen (c*3+2);have HV2:Hid (Pv w base m L F cs (T.bare r c) (World.numAt wr (F.g r) c dx dA dn dc dg)):=HV.out.set (by omega) hc hdn (fun i' k' _ hk' =>T.stB_end r c L i' k' hk');have HP2:=ze (HV.out.keepBox (i:=r) (k:=c) (x:=dx) (X:=dA) (n1:=dn) (c:=dc) (ng:=dg) (by omega) HP.out HGP.out);clear HV HP hdn HD
       go_upto_region 23 with fail
       clear d4 d5 d6 u0 u1 u2 s0 s1 s2 z0 z1 z2;obtain ⟨W3,hW9⟩:∃ x,x=World.numAt wr (F.g r) c dx dA dn dc dg:=⟨_,rfl⟩;rw [<- hW9] at HV2 HP2;have hW8:((wr.setCell ⟨F.g r,c*3,none⟩ (.int .i64 dx)).setCell ⟨F.g r,c*3+1,none⟩ (.slice dA dn dc)).setCell ⟨F.g r,c*3+2,none⟩ (.bool dg)=W3:=hW9.symm;rw [hW8];clear hW8 hW9;have hL1:0<L - 1:=by omega
       obtain ⟨gb,cb,eb,_,_⟩:=HBA.out.1.form (Nat.lt_of_le_of_lt (Nat.zero_le _) hr);obtain ⟨go,co,eo,_,_⟩:=HOT.out.1.form hL1;have HB3:=ze (HV2.out.own HBA.out);have HO3:=ze (HV2.out.own HOT.out);have t7:W3.cell? ⟨F.gt,7,none⟩=some (.slice (some ⟨gb,0,none⟩) m cb):=by rw [HV2.out.tab.cell, <- HCS.out, <- eb];rfl
       have t8:W3.cell? ⟨F.gt,8,none⟩=some (.slice (some ⟨go,0,none⟩) (L - 1) co):=by rw [HV2.out.tab.cell, <- HCS.out, <- eo];rfl
       have hgo:gb≠go:=fun e=>HNE.out gb (by rw [eb];rfl) (by rw [eo,e];rfl)
       rw [eb] at HB3;rw [eo] at HO3;have b1:W3.cell? ⟨gb,r,none⟩=some (.int .i64 (T.basic r:Nat)):=by rw [HB3.out.1.cellAt r (by omega)];exact vp hr
       have o1:W3.cell? ⟨go,c - 1,none⟩=some (.int .i64 (T.other (c - 1):Nat)):=by rw [HO3.out.1.cellAt (c - 1) (by omega)];exact vp (by omega)
       have z1:=HB3.out.1.frozenAt r;have z2:=HO3.out.1.frozenAt (c - 1);have hc1:(c:Int) - 1<((L - 1:Nat):Int):=by omega
       have hc2:(1:Int)<=(c:Int):=by omega
       have hct:((c:Int) - 1).toNat=c - 1:=by omega
       have hrm:(r:Int)<(m:Int):=by omega
       clear hci hri
       go_region
       generalize hW4:((W3.setCell ⟨gb,r,none⟩ (.int .i64 (T.other (c - 1):Nat))).setCell ⟨go,c - 1,none⟩ (.int .i64 (T.basic r:Nat))).drew=W4
       have HC34:Hid (Chg (fun b=>b=gb\/b=go) W3 W4):=by
        rw [<- hW4];exact Chg.trans (Chg.setCell (S:=fun b=>b=gb\/b=go) (Chg.setCell (S:=fun b=>b=gb\/b=go) (Chg.refl W3) (p:=⟨gb,r,none⟩) (.inl rfl) _) (p:=⟨go,c - 1,none⟩) (.inr rfl) _) (Chg.of_below (S:=fun b=>b=gb\/b=go) (zv _).out) (fun b _ h=>h)
       have HB4:Hid (vJ W4 base 3 1 F.bv m (yP m (T.pivot r c).basic)):=by
        have h1:=HB3.out.stored r (xC (T.other (c - 1):Nat));rw [VL] at h1
        have h2:=h1.chg (Chg.setCell (S:=fun b=>b=go) (Chg.refl _) (p:=⟨go,c - 1,none⟩) rfl (.int .i64 (T.basic r:Nat))) (fun b hb e=>hgo (by
         have:gb=b:=by simpa [Value.ownBlock] using hb
         rw [this];exact e))
        have h3:=h2.below (zv _).out;rw [hW4, <- eb] at h3;exact h3
       have HO4:Hid (vJ W4 base 3 1 F.ov (L - 1) (yP (L - 1) (T.pivot r c).other)):=by
        have h1:=HO3.out.chg (Chg.setCell (S:=fun b=>b=gb) (Chg.refl _) (p:=⟨gb,r,none⟩) rfl (.int .i64 (T.other (c - 1):Nat))) (fun b hb e=>hgo (by
         have:go=b:=by simpa [Value.ownBlock] using hb
         rw [this];exact e.symm))
        have h2:=h1.stored (c - 1) (xC (T.basic r:Nat));rw [VL] at h2;have h3:=h2.below (zv _).out;rw [hW4, <- eo] at h3;exact h3
       have HGB:Hid (gb<w.heap.size):=(HBA.out.1.lt gb (by rw [eb];rfl)).2;have HGO:Hid (go<w.heap.size):=(HOT.out.1.lt go (by rw [eo];rfl)).2
       have hS:∀ b,(b=gb\/b=go)->yn W3 b:=fun b h=>by
        rcases h with rfl | rfl
        . exact HB3.out.2 _ rfl
        . exact HO3.out.2 _ rfl
       have hrw:∀ b,(b=gb\/b=go)->∀ i,i<=m->b≠F.g i:=fun b h i hi e=>by
        obtain ⟨cs1,k1⟩:=(HV2.out.mat.rows i (by omega)).2.heap
        rcases h with rfl | rfl
        . obtain ⟨cs2,k2⟩:=HB3.out.heap (b:=b) rfl
          exact xM k1 k2 (by decide) e.symm
        . obtain ⟨cs2,k2⟩:=HO3.out.heap (b:=b) rfl
          exact xM k1 k2 (by decide) e.symm
       have hgm:¬ (F.gm=gb\/F.gm=go):=fun h=>by
        obtain ⟨cs1,k1⟩:=HV2.out.mat.own.heap (b:=F.gm) rfl
        rcases h with h | h
        . obtain ⟨cs2,k2⟩:=HB3.out.heap (b:=gb) rfl
          rw [h] at k1;rw [k1] at k2;injection k2 with k2;injection k2 with _ k3 _;exact absurd k3 (by decide)
        . obtain ⟨cs2,k2⟩:=HO3.out.heap (b:=go) rfl
          rw [h] at k1;rw [k1] at k2;injection k2 with k2;injection k2 with _ k3 _;exact absurd k3 (by decide)
       have hgt:¬ (F.gt=gb\/F.gt=go):=fun h=>by
        rcases h with h | h
        . obtain ⟨cs2,k2⟩:=HB3.out.heap (b:=gb) rfl
          exact xM HV2.out.tab k2 (by decide) h
        . obtain ⟨cs2,k2⟩:=HO3.out.heap (b:=go) rfl
          exact xM HV2.out.tab k2 (by decide) h
       have HV4:=ze (HV2.out.anew HC34.out hrw hgm hS (HC34.out.blk HV2.out.tab hgt));have HP4:=ze (HP2.out.chg HC34.out (fun h=>by have:=HGB.out;have:=HGO.out;have:=HGP.out;omega) hS)
       have HC4:Hid (Chg (F.S m) w W4):=Chg.trans (HV2.out.chg.mono (T:=F.S m) (fun b _ h=>.inr (.inl h))) HC34.out (fun b _ h=>by
        rcases h with rfl | rfl
        . exact .inr (.inr (.inl (by rw [eb];rfl)))
        . exact .inr (.inr (.inr (by rw [eo];rfl))))
       clear hW4 HC34 HB3 HO3 HV2 HP2 hS hrw hgm hgt t7 t8 hgo b1 o1 z1 z2 hc1 hct hrm hL1 HBA HOT HGB HGO
       skip
       obtain ⟨qx,qA,qn,qc,qg,hkq,hqn⟩:=HP4.out;have q0:=hkq.cell 0;have q1:=hkq.cell 1;have q2:=hkq.cell 2;simp at q0 q1 q2;have ht4:Blk W4 F.gt 196 (F.cells m dx dA dn dc dg):=by rw [HCS.out];exact HV4.out.tab
       have d4:W4.cell? ⟨F.gt,4,none⟩=some (.int .i64 dx):=by rw [ht4.cell];rfl
       have d5:W4.cell? ⟨F.gt,5,none⟩=some (.slice dA dn dc):=by rw [ht4.cell];rfl
       have d6:W4.cell? ⟨F.gt,6,none⟩=some (.bool dg):=by rw [ht4.cell];rfl
       have z4:=ht4.frozen 4;have z5:=ht4.frozen 5;have z6:=ht4.frozen 6;have hnd4:yn W4 F.gt:=ht4.noDig (zdg (xG HB4.out) (xG HO4.out))
       have hpt:gp≠F.gt:=fun e=>by
        have:=HV4.out.oldt;exact xM hkq ht4 (by decide) e
       obtain ⟨W5,hW5⟩:∃ x,x=((W4.setCell ⟨F.gt,4,none⟩ (.int .i64 qx)).setCell ⟨F.gt,5,none⟩ (.slice qA qn qc)).setCell ⟨F.gt,6,none⟩ (.bool qg):=⟨_,rfl⟩;have hc45:Chg (· =F.gt) W4 W5:=by rw [hW5];exact zml
       have hS5:∀ b,b=F.gt->yn W4 b:=fun b e=>by subst e;exact hnd4
       have ht5:Blk W5 F.gt 196 (F.cells m qx qA qn qc qg):=by rw [hW5];exact zmc ht4
       have HV5:=ze (HV4.out.anew hc45 (fun b e i hi e2=>by subst e;exact HV4.out.ntab hi e2) (fun e=>by
        obtain ⟨cs1,k1⟩:=HV4.out.mat.own.heap (b:=F.gm) rfl
        exact xM ht4 k1 (by decide) e.symm) hS5 ht5)
       have HP5:=ze (HP4.out.chg hc45 hpt hS5)
       have hown:∀ v n xs,vJ W4 base 3 1 v n xs->vJ W5 base 3 1 v n xs:=fun v n xs h=>h.chg hc45 (fun b hb e=>by
        obtain ⟨cs2,k2⟩:=h.heap hb
        exact xM ht4 k2 (by decide) e.symm)
       have HB5:=ze (hown _ _ _ HB4.out);have HO5:=ze (hown _ _ _ HO4.out);have HC5:Hid (Chg (F.S m) w W5):=Chg.trans HC4.out hc45 (fun b _ e=>.inl e);have HT5:=ze ht5;have HND5:=ze (hc45.num hqn hS5);clear HB4 HO4 HV4 HP4 HC4 ht4 hnd4 hS5 hown hc45 ht5 hkq hqn
       go_upto_region 25 with fail
       rw [<- hW5];clear hW5 q0 q1 q2 d4 d5 d6 z4 z5 z6 hpt;obtain ⟨qx',qA',qn',qc',qg',hkq,hqn⟩:=HP5.out;have q0:=hkq.cell 0;have q1:=hkq.cell 1;have q2:=hkq.cell 2;simp at q0 q1 q2;have HQ:=ze hqn
       skip
       have hsg:=fun w' (h:Below W5.heap.size W5 w')=>Yr _ _ w' (hqn.below h)
       by_cases hneg:T.cell r c<0
       . have e:zK (T.cell r c) 0= -1:=by unfold zK;rw [if_pos hneg]
         rw [e] at hsg;have hpv:=zjy (T:=T) (r:=r) (c:=c) hneg;have HPV:=ze hpv;clear hqn hneg e hpv;go_wp2_with fail;refine (hsg _ (xw _)).mono ?_;rintro e w1 ⟨rfl,hb1⟩;clear hsg q0 q1 q2 hkq;replace HV5:=ze (HV5.out.below hb1);replace HP5:=ze (HP5.out.below hb1);replace HB5:=ze (HB5.out.below hb1);replace HO5:=ze (HO5.out.below hb1);replace HT5:=kb_ HT5 hb1;replace HQ:=ze (HQ.out.below hb1);replace HC5:Hid (Chg (F.S m) w w1):=Chg.trans HC5.out (Chg.of_below (S:=F.S m) hb1) (fun _ _ h=>h);clear hb1 HND5;obtain ⟨qx,qA,qn,qc,qg,hkq,hqn⟩:=HP5.out;have q0:=hkq.cell 0;have q1:=hkq.cell 1;have q2:=hkq.cell 2;simp at q0 q1 q2;clear HQ hkq;go_wp2_with fail;refine (yW _ _ _ hqn).mono ?_;rintro e w2 ⟨v,rfl,hv,hb1⟩;replace HV5:=ze (HV5.out.below hb1);replace HB5:=ze (HB5.out.below hb1);replace HO5:=ze (HO5.out.below hb1);replace HT5:=kb_ HT5 hb1;replace HC5:Hid (Chg (F.S m) w w2):=Chg.trans HC5.out (Chg.of_below (S:=F.S m) hb1) (fun _ _ h=>h);clear q0 q1 q2 hqn hb1 HP5;obtain ⟨sx,sA,sn,sc,sg,rfl,_,_,_⟩:=hv.form;have z4:=HT5.out.frozen 4;have z5:=HT5.out.frozen 5
         have z6:=HT5.out.frozen 6;have d4:=HT5.out.cell 4;have d5:=HT5.out.cell 5;have d6:=HT5.out.cell 6
         simp [zS.cells] at d4 d5 d6
         obtain ⟨W7,hW7⟩:∃ x,x=((w2.setCell ⟨F.gt,4,none⟩ (.int .i64 sx)).setCell ⟨F.gt,5,none⟩ (.slice sA sn sc)).setCell ⟨F.gt,6,none⟩ (.bool sg):=⟨_,rfl⟩;have hc57:Chg (· =F.gt) w2 W7:=by rw [hW7];exact zml
         have hnd5:yn w2 F.gt:=HT5.out.noDig (zdg (xG HB5.out) (xG HO5.out));have hS5:∀ b,b=F.gt->yn w2 b:=fun b e=>by subst e;exact hnd5
         have ht7:Blk W7 F.gt 196 (F.cells m sx sA sn sc sg):=by rw [hW7];exact zmc HT5.out
         have HV7:=ze (HV5.out.anew hc57 (fun b e i hi e2=>by subst e;exact HV5.out.ntab hi e2) (fun e=>by
          obtain ⟨cs1,k1⟩:=HV5.out.mat.own.heap (b:=F.gm) rfl
          exact xM HT5.out k1 (by decide) e.symm) hS5 ht7)
         have hown:∀ v n xs,vJ w2 base 3 1 v n xs->vJ W7 base 3 1 v n xs:=fun v n xs h=>h.chg hc57 (fun b hb e=>by
          obtain ⟨cs2,k2⟩:=h.heap hb
          exact xM HT5.out k2 (by decide) e.symm)
         have HB7:=ze (hown _ _ _ HB5.out);have HO7:=ze (hown _ _ _ HO5.out);have HC7:Hid (Chg (F.S m) w W7):=Chg.trans HC5.out hc57 (fun b _ e=>.inl e);have HN7:=ze (hc57.num hv hS5);have HND7:Hid (∀ b,F.rows m b->yn W7 b):=fun b ⟨i,hi,e⟩=>by subst e;exact HV7.out.noDig hi
         clear HB5 HO5 HV5 HC5 hnd5 hS5 hown hc57 ht7 hv HT5
         go_upto_region 27 with fail
         rw [<- hW7];clear hW7 d4 d5 d6 z4 z5 z6;obtain ⟨cs7,HCS7⟩:∃ cs7,Hid (F.cells m sx sA sn sc sg=cs7):=⟨_,rfl⟩;rw [HCS7.out] at HV7;have t3:W7.cell? ⟨F.gt,3,none⟩=some (.slice (some ⟨F.gm,0,none⟩) (m+1) F.cm):=by rw [HV7.out.tab.cell, <- HCS7.out];rfl
         go_wp2_with fail
         go_loopw [165] (PivD W7 base m L F cs7 (T.bare r c)) (fun iv _=>m+1 - (intOf iv).toNat)
         case atStart=>exact ⟨0,Nat.zero_le _,rfl,HV7.out.congr fun i k _ _=>zlc _ i k⟩
         case round=>
          clear HV7 t3;obtain ⟨i,hi,rfl,HV⟩:=hrel
          by_cases hil:i<m+1
          . have hii:(i:Int)<(m:Int)+1:=by omega
            have t4:=HV.out.mat.cell (i:=i) hil;go_wp2_with fail
            go_loopw [171] (PivE W7 base m L F cs7 (T.bare r c) i) (fun kv _=>L - (intOf kv).toNat)
            case atStart=>exact ⟨0,Nat.zero_le _,rfl,HV⟩
            case round=>
             clear HV t4;obtain ⟨k,hk,rfl,HV⟩:=hrel
             by_cases hkl:k<L
             . have hki:(k:Int)<(L:Int):=by omega
               obtain ⟨ax,aA,an,ac,ag,a0,a1,a2,ha⟩:=HV.out.mat.at_ (i:=i) (k:=k) hil hkl;rw [zno] at ha;go_wp2_with fail;refine (yW _ _ _ ha).mono ?_;rintro e w3 ⟨v,rfl,hv,hb1⟩;replace HV:=ze (HV.out.below hb1);clear ha a0 a1 a2 hb1;obtain ⟨sx,sA,sn,sc,sg,rfl,_,_,_⟩:=hv.form;obtain ⟨u0,u1,u2,s0,s1,s2⟩:=(HV.out.mat.rows i hil).2.slots hkl;have z0:=(HV.out.mat.rows i hil).2.frozen (k*3);have z1:=(HV.out.mat.rows i hil).2.frozen (k*3+1);have z2:=(HV.out.mat.rows i hil).2.frozen (k*3+2);have HV2:Hid (Pv W7 base m L F cs7 (stD (T.bare r c) i (k+1)) (World.numAt w3 (F.g i) k sx sA sn sc sg)):=HV.out.set (by omega) hkl hv (fun i' k' _ _=>zmv _ i k i' k');clear HV hv;go_wp2_with fail;go_roundw
               case rel=>first | exact ⟨k+1,by omega,by go_num,HV2⟩ | ((repeat apply Exists.intro);exact ⟨⟨k+1,by omega,by go_num,HV2⟩,rfl⟩)
               case measure=>simp [intOf];omega
             . obtain rfl:L=k:=by omega
               have HV1:Hid (Pv W7 base m L F cs7 (stD (T.bare r c) (i+1) 0) wr):=HV.out.congr fun i' k' _ hk' =>zqo _ i L i' k' hk'
               clear HV;go_wp2_with fail;go_round
               case rel=>exact ⟨i+1,by omega,by go_num,HV1⟩
               case measure=>simp [intOf];omega
          . obtain rfl:i=m+1:=by omega
            go_wp2_with fail
            go_end0
            refine ⟨rfl,yb.of_pv (w0:=W7) (A:=fun i k=> -(T.bare r c i k)) (x:=sx) (X:=sA) (n:=sn) (c:=sc) (ng:=sg) ?_ ?_ ?_ (HV.out.own HB7.out) (HV.out.own HO7.out) HNE.out HLO.out HNO.out,HC7.out.trans (HV.out.chg.mono (T:=F.S m) (fun b _ h=>.inr (.inl h))) (fun _ _ h=>h)⟩
            . rw [HCS7.out];exact HV.out.congr fun i' k' hi' _=>(zpx _ m i' k' hi').symm
            . rw [HPV.out.1];exact HV.out.chg.num HN7.out HND7.out
            . exact fun i k _ _=>HPV.out.2 i k
       . obtain ⟨sg,hsg2,hsg3⟩:∃ sg:Int,zK (T.cell r c) 0=sg/\¬ sg<0:=by
          unfold zK;rw [if_neg hneg]
          split
          . exact ⟨1,rfl,by omega⟩
          . exact ⟨0,rfl,by omega⟩
         rw [hsg2] at hsg;have hpv:=zli (T:=T) (r:=r) (c:=c) hneg;have HPV:=ze hpv;clear hqn hneg hsg2 hpv;go_wp2_with fail;refine (hsg _ (xw _)).mono ?_;rintro e w1 ⟨rfl,hb1⟩;clear hsg q0 q1 q2 hkq;have HV6:=ze (HV5.out.below hb1);have HB6:=ze (HB5.out.below hb1);have HO6:=ze (HO5.out.below hb1);have HN6:=ze (HND5.out.below hb1);have HC6:Hid (Chg (F.S m) w w1):=Chg.trans HC5.out (Chg.of_below (S:=F.S m) hb1) (fun _ _ h=>h);clear hb1 HV5 HP5 HB5 HO5 HT5 HQ HC5 HND5;go_wp2_with fail
         go_end0
         refine ⟨rfl,yb.of_pv HV6.out ?_ (fun i k _ _=>HPV.out.2 i k) HB6.out HO6.out HNE.out HLO.out HNO.out,HC6.out⟩;rw [HPV.out.1];exact HN6.out
end Go.Proofs.YtkmcmmcencdcpaaGreatDoor
