/- Parts of the proof. -/
import Derived.Deep.CutRange
import Derived.Test.YthbmhkiphmcogaaGreatDoorMe15
import Derived.Test.YthbmhkiphmcogaaGreatDoorMe16
set_option linter.all false
namespace Go.Proofs.YthbmhkiphmcogaaGreatDoor
open Proofs.Tryz Go.RowKit Go.Deep
attribute [local go_sem ↓] Go.wp_at_zero Go.wp_at_succ
theorem Fit.le {z:Int} (h:Fit z) {M:Nat} (hM:8388608<=M):len 4294967296 z.natAbs<=M:=Nat.le_trans h hM
theorem Xd {a b:Int} (ha:Fit a) (hb:Fit b):len 4294967296 (a*b).natAbs<=16777216:=Ys (M:=8388608) (K:=8388608) ha hb
theorem zvt {a b:Int} {M:Nat} (ha:len 4294967296 a.natAbs<=M) (hb:len 4294967296 b.natAbs<=M):len 4294967296 (a - b).natAbs<=M+1:=by
 rw [Int.sub_eq_add_neg]
 exact zla ha (by rw [Int.natAbs_neg];exact hb)
def PivA (w0:World) (base m L:Nat) (F:ya) (cs:Array Value) (T:yE) (r c gp:Nat) (iv:Value) (wr:World):Prop:=
 ∃ i:Nat,i<=m+1/\iv= .int .i64 i/\Hid (Pv w0 base m L F cs (T.stA r c i 0) wr)/\Hid (Yo wr gp (T.cell r c))
def PivB (w0:World) (base m L:Nat) (F:ya) (cs:Array Value) (T:yE) (r c gp i gf:Nat) (kv:Value) (wr:World):Prop:=
 ∃ k:Nat,k<=L/\kv= .int .i64 k/\Hid (Pv w0 base m L F cs (T.stA r c i k) wr)/\Hid (Yo wr gp (T.cell r c))/\Hid (Yo wr gf (T.cell i c))
def PivR (w0:World) (base m L:Nat) (F:ya) (cs:Array Value) (T:yE) (r c gp:Nat) (kv:Value) (wr:World):Prop:=
 ∃ k:Nat,k<=L/\kv= .int .i64 k/\Hid (Pv w0 base m L F cs (T.stB r c k) wr)/\Hid (Yo wr gp (T.cell r c))
def PivD (w0:World) (base m L:Nat) (F:ya) (cs:Array Value) (A:Nat->Nat->Int) (iv:Value) (wr:World):Prop:=∃ i:Nat,i<=m+1/\iv= .int .i64 i/\Hid (Pv w0 base m L F cs (stD A i 0) wr)
def PivE (w0:World) (base m L:Nat) (F:ya) (cs:Array Value) (A:Nat->Nat->Int) (i:Nat) (kv:Value) (wr:World):Prop:=∃ k:Nat,k<=L/\kv= .int .i64 k/\Hid (Pv w0 base m L F cs (stD A i k) wr)
theorem zqw {T:yE} {r c:Nat} (h:¬ T.cell r c<0):(T.pivot r c).den=T.cell r c/\∀ i k,(T.pivot r c).cell i k=T.bare r c i k:=by
 unfold yE.pivot
 exact ⟨by simp only [if_neg h],fun i k=>by simp only [if_neg h]⟩
theorem znw {T:yE} {r c:Nat} (h:T.cell r c<0):(T.pivot r c).den= -(T.cell r c)/\∀ i k,(T.pivot r c).cell i k= -(T.bare r c i k):=by
 unfold yE.pivot
 exact ⟨by simp only [if_pos h],fun i k=>by simp only [if_pos h]⟩
def zwi (base m L:Nat) (F:ya) (T:yE) (w:World) (e:Ending) (w' :World):Prop:=e= .returned (.tuple #[])/\yi base m L F w' T/\Chg (F.S m) w w'
set_option maxRecDepth 100000 in
set_option maxHeartbeats 8000000 in
theorem zj2 (base m L:Nat) (F:ya) (T:yE) (r c:Nat) (w:World) (hT:yi base m L F w T) (hf:T.Fits m L) (hr:r<m) (hc0:0<c) (hc:c<L) (hm:m<=100000) (hL:L<=100000) (hb:base<=w.heap.size):
 Calls Tryz.prog 111 #[.pointer (some ⟨F.gt,0,none⟩),.int .i64 r,.int .i64 c] w (zwi base m L F (T.pivot r c) w):=by
 obtain ⟨⟨dx,dA,dn,dc,dg,bD,bU⟩,aY,bN,bW,bX,bP,b3⟩:=hT
 have j:Hid (Pv w base m L F (F.cells m dx dA dn dc dg) T.cell w):=⟨aY,bD,Chg.refl w,fun i hi=>⟨(aY.rows i (by omega)).2.lt,(aY.rows i (by omega)).2.heap⟩,bD.lt,aY.lt.2,hb⟩
 have HD:=ze bU
 have bf:=ze bN
 have a7:=ze bW
 have bw:=ze bX
 have b8:=ze bP
 have b9:=ze b3
 have HF:=ze hf
 have HB:=ze hb
 have ce:Hid (∀ b,F.rows m b->zZ w b):=fun b ⟨i,hi,e⟩=>by subst e;exact j.o.noDig hi
 clear bD bU aY bN bW bX bP b3 hf hb
 obtain ⟨cs,aj⟩:∃ cs,Hid (F.cells m dx dA dn dc dg=cs):=⟨_,rfl⟩
 rw [aj.o] at j
 have t3:w.cell? ⟨F.gt,3,none⟩=some (.slice (some ⟨F.gm,0,none⟩) (m+1) F.cm):=by rw [j.o.tab.cell, <- aj.o];rfl
 have t4:=j.o.mat.cell (i:=r) (by omega)
 obtain ⟨px,pA,pn,pc,pg,p0,p1,p2,hp⟩:=j.o.mat.at_ (i:=r) (k:=c) (by omega) hc
 have cw:(r:Int)<(m:Int)+1:=by omega
 have ch:(c:Int)<(L:Int):=by omega
 have hx:=zf w (.cells #[.int .i64 px,.slice pA pn pc,.bool pg] 53)
 have C:Hid (Yo (w.alloc (.cells #[.int .i64 px,.slice pA pn pc,.bool pg] 53)) w.heap.size (T.cell r c)):=⟨px,pA,pn,pc,pg,Blk.new _ _ _,hp.below hx⟩
 have ad:=ze (j.o.below hx)
 clear hp j hx
 go_enter func111,ntmps111
 go_upto_region 1 with fail
 clear t3 t4 p0 p1 p2
 generalize w.alloc (.cells #[.int .i64 px,.slice pA pn pc,.bool pg] 53)=W1 at C ad |-
 have aV:=ze (Nat.le_refl w.heap.size)
 generalize bT:w.heap.size=gp at C |-
 have aV:Hid (w.heap.size<=gp):=ze (Nat.le_of_eq bT)
 clear bT
 have t3:W1.cell? ⟨F.gt,3,none⟩=some (.slice (some ⟨F.gm,0,none⟩) (m+1) F.cm):=by rw [ad.o.tab.cell, <- aj.o];rfl
 go_wp2_with fail
 go_loopw [32] (PivA w base m L F cs T r c gp) (fun iv _=>m+1 - (intOf iv).toNat)
 case atStart=>exact ⟨0,Nat.zero_le _,rfl,ad.o.congr fun i k _ _=>T.stA_start r c i k,C⟩
 case round=>
  clear ad C t3
  obtain ⟨i,hi,rfl,j,C⟩:=hrel
  by_cases ab:i<m+1
  . have cj:(i:Int)<(m:Int)+1:=by omega
    have t4:=j.o.mat.cell (i:=i) ab
    by_cases be:i=r
    . have hd:((i:Int) == (r:Int))=true:=by rw [beq_iff_eq];omega
      have ad:Hid (Pv w base m L F cs (T.stA r c (i+1) 0) wr):=j.o.congr fun i' k' _ _=>by subst be;exact T.stA_skip i c i' k'
      clear be j;go_wp2_with fail;go_round
      case rel=>exact ⟨i+1,by omega,by go_num,ad,C⟩
      case measure=>simp [intOf];omega
    have hd:((i:Int) == (r:Int))=false:=by rw [beq_eq_false_iff_ne];omega
    have br:=ze be;obtain ⟨fx,fA,fn,fc,fg,f0,f1,f2,ay⟩:=j.o.mat.at_ (i:=i) (k:=c) ab hc;rw [T.stA_col0] at ay;have hx:=zf wr (.cells #[.int .i64 fx,.slice fA fn fc,.bool fg] 53);have O:Hid (Yo (wr.alloc (.cells #[.int .i64 fx,.slice fA fn fc,.bool fg] 53)) wr.heap.size (T.cell i c)):=⟨fx,fA,fn,fc,fg,Blk.new _ _ _,ay.below hx⟩;have ad:=ze (j.o.below hx);have bj:=ze (C.o.below hx);have cc:=ze j.o.ge;clear ay j C hx be
    go_upto_region 6 with fail
    clear f0 f1 f2;generalize wr.alloc (.cells #[.int .i64 fx,.slice fA fn fc,.bool fg] 53)=W2 at O ad bj |-;generalize wr.heap.size=gf at O cc |-;clear t4;go_wp2_with fail
    go_loopw [46] (PivB w base m L F cs T r c gp i gf) (fun kv _=>L - (intOf kv).toNat)
    case atStart=>exact ⟨0,Nat.zero_le _,rfl,ad,bj,O⟩
    case round=>
     clear ad bj O;obtain ⟨k,hk,rfl,j,C,O⟩:=hrel
     by_cases ae:k<L
     rotate_left
     . obtain rfl:k=L:=by omega
       skip
       have t4:=j.o.mat.cell (i:=i) ab;obtain ⟨u0,u1,u2,s0,s1,s2⟩:=(j.o.mat.rows i ab).2.slots hc;have f0:=(j.o.mat.rows i ab).2.frozen (c*3);have f1:=(j.o.mat.rows i ab).2.frozen (c*3+1);have f2:=(j.o.mat.rows i ab).2.frozen (c*3+2);obtain ⟨fx,fA,fn,fc,fg,ar,ay⟩:=O.o;have e0:=ar.cell 0;have e1:=ar.cell 1;have Q:=ar.cell 2;simp at e0 e1 Q;have aa:Hid (Pv w base m k F cs (T.stA r c (i+1) 0) (World.numAt wr (F.g i) c fx fA fn fc fg)):=j.o.set (by omega) hc ay fun i' k' _ hk' =>T.stA_end r c i k br.o i' k' hk'
       have aE:=ze (j.o.keepBox (i:=i) (k:=c) (x:=fx) (X:=fA) (n1:=fn) (c:=fc) (ng:=fg) (by omega) C.o aV.o);clear ar ay j C O;go_wp2_with fail;go_round
       case rel=>exact ⟨i+1,by omega,by go_num,aa,aE⟩
       case measure=>simp [intOf];omega
     have bJ:(k:Int)<(L:Int):=by omega
     by_cases aw:k=c
     . have bl:((k:Int) == (c:Int))=true:=by rw [beq_iff_eq];omega
       have ad:Hid (Pv w base m L F cs (T.stA r c i (k+1)) wr):=j.o.congr fun i' k' _ _=>by subst aw;exact T.stA_col r k i br.o i' k'
       clear aw j;go_wp2_with fail;go_round
       case rel=>exact ⟨k+1,by omega,by go_num,ad,C,O⟩
       case measure=>simp [intOf];omega
     have bl:((k:Int) == (c:Int))=false:=by rw [beq_eq_false_iff_ne];omega
     have bC:=ze aw;clear aw;have t3:wr.cell? ⟨F.gt,3,none⟩=some (.slice (some ⟨F.gm,0,none⟩) (m+1) F.cm):=by rw [j.o.tab.cell, <- aj.o];rfl
     have t4:=j.o.mat.cell (i:=r) (by omega);obtain ⟨ax,aA,an,ac,ag,a0,Y,U,ha⟩:=j.o.mat.at_ (i:=i) (k:=k) ab ae;rw [T.stA_here] at ha;obtain ⟨bx,bA,bn,bc,bg,b0,b1,b2,bo⟩:=j.o.mat.at_ (i:=r) (k:=k) (by omega) ae;rw [T.stA_row] at bo;obtain ⟨px,pA,pn,pc,pg,a5,bG⟩:=C.o;obtain ⟨fx,fA,fn,fc,fg,ar,ay⟩:=O.o;have J:=a5.cell 0;have M:=a5.cell 1;have I:=a5.cell 2;have e0:=ar.cell 0;have e1:=ar.cell 1;have Q:=ar.cell 2;simp at J M I e0 e1 Q;have N:=j.o.tab.lt;have mL:=j.o.mat.lt.2;have y:=(j.o.mat.rows i ab).2.lt;have z:=(j.o.mat.rows r (by omega)).2.lt;have l:=a5.lt;have u:=ar.lt;have bb:=ze l;have ba:=ze u;have HA:=ze ha;have aH:=ze bo;have aM:=ze bG;have aK:=ze ay;have N1:=ze (HF.o.cell i k (by omega) ae);have N2:=ze (HF.o.cell r c (by omega) hc);have N3:=ze (HF.o.cell i c (by omega) hc);have N4:=ze (HF.o.cell r k (by omega) ae);clear ha bo a5 bG ar ay
     go_upto_region 10 with fail
     go_cut [11,46] from 46 to 83 (fun sx si wc=>si= .int .i64 k/\∃ gx,sx= .pointer (some ⟨gx,0,none⟩)/\Hid (w.heap.size<=gx)/\Hid (Yo wc gx (T.cell i k*T.cell r c - T.cell i c*T.cell r k))/\Hid (Pv w base m L F cs (T.stA r c i k) wc)/\Hid (Yo wc gp (T.cell r c))/\Hid (Yo wc gf (T.cell i c)))
     case first=>
      skip
      refine zt (S:=fun w' =>Hid (Below wr.heap.size wr w')/\w'.cell? ⟨F.gt,3,none⟩=some (.slice (some ⟨F.gm,0,none⟩) (m+1) F.cm)/\w'.cell? ⟨F.gm,r,none⟩=some (.slice (some ⟨F.g r,0,none⟩) L L)/\w'.cell? ⟨F.g i,k*3,none⟩=some (.int .i64 ax)/\w'.cell? ⟨F.g i,k*3+1,none⟩=some (.slice aA an ac)/\w'.cell? ⟨F.g i,k*3+2,none⟩=some (.bool ag)/\w'.cell? ⟨F.g r,k*3,none⟩=some (.int .i64 bx)/\w'.cell? ⟨F.g r,k*3+1,none⟩=some (.slice bA bn bc)/\w'.cell? ⟨F.g r,k*3+2,none⟩=some (.bool bg)/\w'.cell? ⟨gp,0,none⟩=some (.int .i64 px)/\w'.cell? ⟨gp,1,none⟩=some (.slice pA pn pc)/\w'.cell? ⟨gp,2,none⟩=some (.bool pg)/\w'.cell? ⟨gf,0,none⟩=some (.int .i64 fx)/\w'.cell? ⟨gf,1,none⟩=some (.slice fA fn fc)/\w'.cell? ⟨gf,2,none⟩=some (.bool fg)) 5 15 20 rfl (by kernel_rfl) (by kernel_rfl) (by kernel_rfl) rfl (zl (zu wr) (fun hB=>⟨zh hB N t3,zh hB mL t4,zh hB y a0,zh hB y Y,zh hB y U,zh hB z b0,zh hB z b1,zh hB z b2,zh hB l J,zh hB l M,zh hB l I,zh hB u e0,zh hB u e1,zh hB u Q⟩)) ?_ (fun hHeld=>?_)
      . intro _ _ _ _ _ h9;exact h9
      simp only [List.take_succ_cons,List.take_zero]
      iterate 5 refine ye ?_
      refine zU ?_;refine HH.tk 6 ?_;refine HH.tk 7 ?_;refine HH.tk 8 ?_;refine HH.tk 9 ?_;refine HH.tk 10 ?_;refine HH.tk 11 ?_;refine HH.tk 12 ?_;refine HH.tk 13 ?_;refine HH.tk 14 ?_;refine HH.tk 15 ?_;refine HH.tk 16 ?_;have bq:=ze j.o.ge;refine HH.ready (rs:=[5,19]) (by kernel_rfl) (by simp) (by kernel_rfl) ?_;refine yV.cons (o:=_) rfl (fun K hK=>?_) (yV.cons (o:=_) rfl (fun K hK=>?_) yV.nil)
      . skip
        go_simp
        go_at_call 55;refine (vq _ _ _ _ _ (HA.o.below hHeld.1.out) (aM.o.below hHeld.1.out) (N1.o.le (by omega)) (N2.o.le (by omega))).mono ?_;rintro e w1 ⟨v1,rfl,B,E⟩;have V:=ze B;clear B;have D:=hHeld;clear hHeld;refine hK.out _ _ (zl (zr E D.1) (fun hB=>⟨zh hB N t3,zh hB mL t4,zh hB y a0,zh hB y Y,zh hB y U,zh hB z b0,zh hB z b1,zh hB z b2,zh hB l J,zh hB l M,zh hB l I,zh hB u e0,zh hB u e1,zh hB u Q⟩)) (fun hHeld=>?_);clear D hK K
        try simp only [Act.put,xST]
        clear E;refine HH.ready (rs:=[17,19]) (by kernel_rfl) (by simp) (by kernel_rfl) ?_;refine yV.cons (o:=_) rfl (fun K hK=>?_) (yV.cons (o:=_) rfl (fun K hK=>?_) yV.nil)
        rotate_left
        . skip
          go_simp
          have aG:=zf w1 (.cells #[.int .i64 0,.slice none 0 0,.bool false] 53);have G:Hid (Blk _ w1.heap.size 53 #[.int .i64 0,.slice none 0 0,.bool false]):=Blk.new w1 _ _;have ak:Hid (wr.heap.size<=w1.heap.size):=hHeld.1.out.size;replace V:=ze (V.o.below aG);clear aG;have D:=hHeld;clear hHeld;refine hK.out _ _ (zl (zc2 D.1) (fun hB=>⟨zh hB N t3,zh hB mL t4,zh hB y a0,zh hB y Y,zh hB y U,zh hB z b0,zh hB z b1,zh hB z b2,zh hB l J,zh hB l M,zh hB l I,zh hB u e0,zh hB u e1,zh hB u Q⟩)) (fun hHeld=>?_);clear D hK K
          try simp only [Act.put,xST]
          refine HH.rd 17 (fun K hK=>?_)
          go_simp
          go_at_call 55;refine (vq _ _ _ _ _ (aK.o.below hHeld.1.out) (aH.o.below hHeld.1.out) (N3.o.le (by omega)) (N4.o.le (by omega))).mono ?_;rintro e w2 ⟨v2,rfl,B,al⟩;replace V:=ze (V.o.below al);have ao:=ze B;clear B;replace G:=kb_ G al;have D:=hHeld;clear hHeld;refine hK.out _ _ (zl (zr al D.1) (fun hB=>⟨zh hB N t3,zh hB mL t4,zh hB y a0,zh hB y Y,zh hB y U,zh hB z b0,zh hB z b1,zh hB z b2,zh hB l J,zh hB l M,zh hB l I,zh hB u e0,zh hB u e1,zh hB u Q⟩)) (fun hHeld=>?_);clear D hK K
          try simp only [Act.put,xST]
          clear al;refine HH.rd 18 (fun K hK=>?_)
          go_simp
          go_at_call 148;refine (zd2 _ _ _ _ _ V.o ao.o (Nat.le_trans (Xd N1.o N2.o) (by omega)) (Nat.le_trans (Xd N3.o N4.o) (by omega))).mono ?_;rintro e w3 ⟨v3,rfl,B,ai⟩;have aq:=ze B;clear B;clear V ao;replace G:=kb_ G ai;have D:=hHeld;clear hHeld;refine hK.out _ _ (zl (zr ai D.1) (fun hB=>⟨zh hB N t3,zh hB mL t4,zh hB y a0,zh hB y Y,zh hB y U,zh hB z b0,zh hB z b1,zh hB z b2,zh hB l J,zh hB l M,zh hB l I,zh hB u e0,zh hB u e1,zh hB u Q⟩)) (fun hHeld=>?_);clear D hK K
          try simp only [Act.put,xST]
          clear ai;have R:=hHeld.1.out;replace j:=ze (Pv.below j.o R);replace C:=ze (Yo.below C.o R);replace O:=ze (Yo.below O.o R);clear R;refine HH.done (by kernel_rfl) ?_;simp only [List.drop_succ_cons,List.drop_zero];clear HA aH aM aK N1 N2 N3 N4 a0 Y U b0 b1 b2 J M I e0 e1 Q N mL y z l u t3 t4 hHeld;have a8:=j.o.ge;obtain ⟨sx,sA,sn,sc,Z,rfl,_,_,_⟩:=aq.o.form;have r0:=G.o.cell 0;have r1:=G.o.cell 1;have r2:=G.o.cell 2;have z0:=G.o.frozen 0;have z1:=G.o.frozen 1;have z2:=G.o.frozen 2;simp at r0 r1 r2;have aJ:Hid (w.heap.size<=w1.heap.size):=by have:=ak.o;have:=bq.o;show _<=_;omega
          go_wp2_with fail;go_meet;have ap:=G.o.noDig (V1 _ _ _ _ _);have n1:gp≠w1.heap.size:=by have:=bb.o;have:=ak.o;omega
          have n2:gf≠w1.heap.size:=by have:=ba.o;have:=ak.o;omega
          exact ⟨rfl,w1.heap.size,rfl,aJ,zci G.o aq.o,j.o.box Yl aJ.o ap,C.o.chg Yl n1 (fun b e=>by subst e;exact ap),O.o.chg Yl n2 (fun b e=>by subst e;exact ap)⟩
        skip
        go_simp
        go_at_call 55;refine (vq _ _ _ _ _ (aK.o.below hHeld.1.out) (aH.o.below hHeld.1.out) (N3.o.le (by omega)) (N4.o.le (by omega))).mono ?_;rintro e w2 ⟨v2,rfl,B,al⟩;replace V:=ze (V.o.below al);have ao:=ze B;clear B;have D:=hHeld;clear hHeld;refine hK.out _ _ (zl (zr al D.1) (fun hB=>⟨zh hB N t3,zh hB mL t4,zh hB y a0,zh hB y Y,zh hB y U,zh hB z b0,zh hB z b1,zh hB z b2,zh hB l J,zh hB l M,zh hB l I,zh hB u e0,zh hB u e1,zh hB u Q⟩)) (fun hHeld=>?_);clear D hK K
        try simp only [Act.put,xST]
        clear al;refine HH.ready (rs:=[18,19]) (by kernel_rfl) (by simp) (by kernel_rfl) ?_;refine yV.cons (o:=_) rfl (fun K hK=>?_) (yV.cons (o:=_) rfl (fun K hK=>?_) yV.nil)
        . skip
          go_simp
          go_at_call 148;refine (zd2 _ _ _ _ _ V.o ao.o (Nat.le_trans (Xd N1.o N2.o) (by omega)) (Nat.le_trans (Xd N3.o N4.o) (by omega))).mono ?_;rintro e w3 ⟨v3,rfl,B,ai⟩;have aq:=ze B;clear B;clear V ao;have D:=hHeld;clear hHeld;refine hK.out _ _ (zl (zr ai D.1) (fun hB=>⟨zh hB N t3,zh hB mL t4,zh hB y a0,zh hB y Y,zh hB y U,zh hB z b0,zh hB z b1,zh hB z b2,zh hB l J,zh hB l M,zh hB l I,zh hB u e0,zh hB u e1,zh hB u Q⟩)) (fun hHeld=>?_);clear D hK K
          try simp only [Act.put,xST]
          clear ai;have R:=hHeld.1.out;replace j:=ze (Pv.below j.o R);replace C:=ze (Yo.below C.o R);replace O:=ze (Yo.below O.o R);clear R;refine HH.rd 19 (fun K hK=>?_)
          go_simp
          have aG:=zf w3 (.cells #[.int .i64 0,.slice none 0 0,.bool false] 53);clear aG;have D:=hHeld;clear hHeld;refine hK.out _ _ (zl (zc2 D.1) (fun hB=>⟨zh hB N t3,zh hB mL t4,zh hB y a0,zh hB y Y,zh hB y U,zh hB z b0,zh hB z b1,zh hB z b2,zh hB l J,zh hB l M,zh hB l I,zh hB u e0,zh hB u e1,zh hB u Q⟩)) (fun hHeld=>?_);clear D hK K
          try simp only [Act.put,xST]
          refine HH.done (by kernel_rfl) ?_;simp only [List.drop_succ_cons,List.drop_zero];clear HA aH aM aK N1 N2 N3 N4 a0 Y U b0 b1 b2 J M I e0 e1 Q N mL y z l u t3 t4 hHeld;have a8:=j.o.ge;obtain ⟨sx,sA,sn,sc,Z,rfl,_,_,_⟩:=aq.o.form;go_wp2_with fail;go_meet;have hx:=zf w3 (.cells #[.int .i64 sx,.slice sA sn sc,.bool Z] 53);exact ⟨rfl,w3.heap.size,rfl,a8,⟨sx,sA,sn,sc,Z,Blk.new _ _ _,aq.o.below hx⟩,j.o.below hx,C.o.below hx,O.o.below hx⟩
        skip
        go_simp
        have aG:=zf w2 (.cells #[.int .i64 0,.slice none 0 0,.bool false] 53);have G:Hid (Blk _ w2.heap.size 53 #[.int .i64 0,.slice none 0 0,.bool false]):=Blk.new w2 _ _;have ak:Hid (wr.heap.size<=w2.heap.size):=hHeld.1.out.size;replace V:=ze (V.o.below aG);replace ao:=ze (ao.o.below aG);clear aG;have D:=hHeld;clear hHeld;refine hK.out _ _ (zl (zc2 D.1) (fun hB=>⟨zh hB N t3,zh hB mL t4,zh hB y a0,zh hB y Y,zh hB y U,zh hB z b0,zh hB z b1,zh hB z b2,zh hB l J,zh hB l M,zh hB l I,zh hB u e0,zh hB u e1,zh hB u Q⟩)) (fun hHeld=>?_);clear D hK K
        try simp only [Act.put,xST]
        refine HH.rd 18 (fun K hK=>?_)
        go_simp
        go_at_call 148;refine (zd2 _ _ _ _ _ V.o ao.o (Nat.le_trans (Xd N1.o N2.o) (by omega)) (Nat.le_trans (Xd N3.o N4.o) (by omega))).mono ?_;rintro e w3 ⟨v3,rfl,B,ai⟩;have aq:=ze B;clear B;clear V ao;replace G:=kb_ G ai;have D:=hHeld;clear hHeld;refine hK.out _ _ (zl (zr ai D.1) (fun hB=>⟨zh hB N t3,zh hB mL t4,zh hB y a0,zh hB y Y,zh hB y U,zh hB z b0,zh hB z b1,zh hB z b2,zh hB l J,zh hB l M,zh hB l I,zh hB u e0,zh hB u e1,zh hB u Q⟩)) (fun hHeld=>?_);clear D hK K
        try simp only [Act.put,xST]
        clear ai;have R:=hHeld.1.out;replace j:=ze (Pv.below j.o R);replace C:=ze (Yo.below C.o R);replace O:=ze (Yo.below O.o R);clear R;refine HH.done (by kernel_rfl) ?_;simp only [List.drop_succ_cons,List.drop_zero];clear HA aH aM aK N1 N2 N3 N4 a0 Y U b0 b1 b2 J M I e0 e1 Q N mL y z l u t3 t4 hHeld;have a8:=j.o.ge;obtain ⟨sx,sA,sn,sc,Z,rfl,_,_,_⟩:=aq.o.form;have r0:=G.o.cell 0;have r1:=G.o.cell 1;have r2:=G.o.cell 2;have z0:=G.o.frozen 0;have z1:=G.o.frozen 1;have z2:=G.o.frozen 2;simp at r0 r1 r2;have aJ:Hid (w.heap.size<=w2.heap.size):=by have:=ak.o;have:=bq.o;show _<=_;omega
        go_wp2_with fail;go_meet;have ap:=G.o.noDig (V1 _ _ _ _ _);have n1:gp≠w2.heap.size:=by have:=bb.o;have:=ak.o;omega
        have n2:gf≠w2.heap.size:=by have:=ba.o;have:=ak.o;omega
        exact ⟨rfl,w2.heap.size,rfl,aJ,zci G.o aq.o,j.o.box Yl aJ.o ap,C.o.chg Yl n1 (fun b e=>by subst e;exact ap),O.o.chg Yl n2 (fun b e=>by subst e;exact ap)⟩
      . skip
        go_simp
        have G:Hid (Blk _ wr.heap.size 53 #[.int .i64 0,.slice none 0 0,.bool false]):=(Blk.new wr 53 #[.int .i64 0,.slice none 0 0,.bool false]).drew;have ak:Hid (wr.heap.size<=wr.heap.size):=Nat.le_refl _;have D:=hHeld;clear hHeld;refine hK.out _ _ (zl (yU wr _) (fun hB=>⟨zh hB N t3,zh hB mL t4,zh hB y a0,zh hB y Y,zh hB y U,zh hB z b0,zh hB z b1,zh hB z b2,zh hB l J,zh hB l M,zh hB l I,zh hB u e0,zh hB u e1,zh hB u Q⟩)) (fun hHeld=>?_);clear D hK K
        try simp only [Act.put,xST]
        refine HH.rd 5 (fun K hK=>?_)
        go_simp
        go_at_call 55;refine (vq _ _ _ _ _ (HA.o.below hHeld.1.out) (aM.o.below hHeld.1.out) (N1.o.le (by omega)) (N2.o.le (by omega))).mono ?_;rintro e w1 ⟨v1,rfl,B,E⟩;have V:=ze B;clear B;replace G:=kb_ G E;have D:=hHeld;clear hHeld;refine hK.out _ _ (zl (zr E D.1) (fun hB=>⟨zh hB N t3,zh hB mL t4,zh hB y a0,zh hB y Y,zh hB y U,zh hB z b0,zh hB z b1,zh hB z b2,zh hB l J,zh hB l M,zh hB l I,zh hB u e0,zh hB u e1,zh hB u Q⟩)) (fun hHeld=>?_);clear D hK K
        try simp only [Act.put,xST]
        clear E;refine HH.rd 17 (fun K hK=>?_)
        go_simp
        go_at_call 55;refine (vq _ _ _ _ _ (aK.o.below hHeld.1.out) (aH.o.below hHeld.1.out) (N3.o.le (by omega)) (N4.o.le (by omega))).mono ?_;rintro e w2 ⟨v2,rfl,B,al⟩;replace V:=ze (V.o.below al);have ao:=ze B;clear B;replace G:=kb_ G al;have D:=hHeld;clear hHeld;refine hK.out _ _ (zl (zr al D.1) (fun hB=>⟨zh hB N t3,zh hB mL t4,zh hB y a0,zh hB y Y,zh hB y U,zh hB z b0,zh hB z b1,zh hB z b2,zh hB l J,zh hB l M,zh hB l I,zh hB u e0,zh hB u e1,zh hB u Q⟩)) (fun hHeld=>?_);clear D hK K
        try simp only [Act.put,xST]
        clear al;refine HH.rd 18 (fun K hK=>?_)
        go_simp
        go_at_call 148;refine (zd2 _ _ _ _ _ V.o ao.o (Nat.le_trans (Xd N1.o N2.o) (by omega)) (Nat.le_trans (Xd N3.o N4.o) (by omega))).mono ?_;rintro e w3 ⟨v3,rfl,B,ai⟩;have aq:=ze B;clear B;clear V ao;replace G:=kb_ G ai;have D:=hHeld;clear hHeld;refine hK.out _ _ (zl (zr ai D.1) (fun hB=>⟨zh hB N t3,zh hB mL t4,zh hB y a0,zh hB y Y,zh hB y U,zh hB z b0,zh hB z b1,zh hB z b2,zh hB l J,zh hB l M,zh hB l I,zh hB u e0,zh hB u e1,zh hB u Q⟩)) (fun hHeld=>?_);clear D hK K
        try simp only [Act.put,xST]
        clear ai;have R:=hHeld.1.out;replace j:=ze (Pv.below j.o R);replace C:=ze (Yo.below C.o R);replace O:=ze (Yo.below O.o R);clear R;refine HH.done (by kernel_rfl) ?_;simp only [List.drop_succ_cons,List.drop_zero];clear HA aH aM aK N1 N2 N3 N4 a0 Y U b0 b1 b2 J M I e0 e1 Q N mL y z l u t3 t4 hHeld;have a8:=j.o.ge;obtain ⟨sx,sA,sn,sc,Z,rfl,_,_,_⟩:=aq.o.form;have r0:=G.o.cell 0;have r1:=G.o.cell 1;have r2:=G.o.cell 2;have z0:=G.o.frozen 0;have z1:=G.o.frozen 1;have z2:=G.o.frozen 2;simp at r0 r1 r2;have aJ:Hid (w.heap.size<=wr.heap.size):=by have:=ak.o;have:=bq.o;show _<=_;omega
        go_wp2_with fail;go_meet;have ap:=G.o.noDig (V1 _ _ _ _ _);have n1:gp≠wr.heap.size:=by have:=bb.o;have:=ak.o;omega
        have n2:gf≠wr.heap.size:=by have:=ba.o;have:=ak.o;omega
        exact ⟨rfl,wr.heap.size,rfl,aJ,zci G.o aq.o,j.o.box Yl aJ.o ap,C.o.chg Yl n1 (fun b e=>by subst e;exact ap),O.o.chg Yl n2 (fun b e=>by subst e;exact ap)⟩
     case rest=>
      clear j C O HA aH aM aK N1 N2 N3 N4 a0 Y U b0 b1 b2 J M I e0 e1 Q N mL y z l u t3 t4 bb ba;obtain ⟨rfl,gx,rfl,ak,bK,j,C,O⟩:=hcut
      skip
      obtain ⟨xx,xA,xn,xc,xg,a3,b5⟩:=bK.o;have x0:=a3.cell 0;have x1:=a3.cell 1;have x2:=a3.cell 2;simp at x0 x1 x2;have xL:=a3.lt;have N:=j.o.tab.lt;have d4:wc.cell? ⟨F.gt,4,none⟩=some (.int .i64 dx):=by rw [j.o.tab.cell, <- aj.o];rfl
      have d5:wc.cell? ⟨F.gt,5,none⟩=some (.slice dA dn dc):=by rw [j.o.tab.cell, <- aj.o];rfl
      have d6:wc.cell? ⟨F.gt,6,none⟩=some (.bool dg):=by rw [j.o.tab.cell, <- aj.o];rfl
      have bS:=ze b5;have bF:=ze (j.o.chg.num HD.o ce.o);have NX:=ze (zvt (Xd (HF.o.cell i k (by omega) ae) (HF.o.cell r c (by omega) hc)) (Xd (HF.o.cell i c (by omega) hc) (HF.o.cell r k (by omega) ae)));have ND:Hid (T.den≠0):=by have:=HF.o.den;show T.den≠0;omega
      clear a3 b5
      go_upto_region 11 with fail
      refine Xi (S:=fun w' =>Hid (Below wc.heap.size wc w')/\w'.cell? ⟨gx,0,none⟩=some (.int .i64 xx)/\w'.cell? ⟨gx,1,none⟩=some (.slice xA xn xc)/\w'.cell? ⟨gx,2,none⟩=some (.bool xg)/\w'.cell? ⟨F.gt,4,none⟩=some (.int .i64 dx)/\w'.cell? ⟨F.gt,5,none⟩=some (.slice dA dn dc)/\w'.cell? ⟨F.gt,6,none⟩=some (.bool dg)) 10 12 7 5 12 rfl (by kernel_rfl) rfl rfl rfl (by kernel_rfl) (by kernel_rfl) (by kernel_rfl) rfl (zl (zu wc) (fun hB=>⟨zh hB xL x0,zh hB xL x1,zh hB xL x2,zh hB N d4,zh hB N d5,zh hB N d6⟩)) ?_ ?_ (fun hHeld=>?_)
      . intro _ _ _ _ _ h9;exact h9
      . intro _ _ _ _ h9;exact h9
      simp only [zb9,zuw,List.take_succ_cons,List.take_zero]
      iterate 7 refine ye ?_
      refine zU ?_;refine HH.rd 7 (fun K hK=>?_)
      go_simp
      go_at_call 94;refine (zbf _ _ _ _ _ (bS.o.below hHeld.1.out) (bF.o.below hHeld.1.out) ND.out (Nat.le_trans NX.out (by omega)) (HF.o.fden.le (by omega))).mono ?_;rintro e w1 ⟨v,v',rfl,B,cq,E⟩;have V:=ze B;clear B cq;have D:=hHeld;clear hHeld;refine hK.out _ _ (zl (zr E D.1) (fun hB=>⟨zh hB xL x0,zh hB xL x1,zh hB xL x2,zh hB N d4,zh hB N d5,zh hB N d6⟩)) (fun hHeld=>?_);clear D hK K
      try simp only [Act.put,xST]
      clear E;refine HH.tk 8 ?_;refine HH.tk 9 ?_;refine HH.tk 10 ?_;refine HH.tk 11 ?_;have R:=(hHeld.1).out;replace j:=ze (Pv.below j.o R);replace C:=ze (Yo.below C.o R);replace O:=ze (Yo.below O.o R);clear R hHeld;refine HH.done (by kernel_rfl) ?_;simp only [List.drop_succ_cons,List.drop_zero];clear bS bF NX ND x0 x1 x2 d4 d5 d6 xL N bK ak;obtain ⟨sx,sA,sn,sc,Z,rfl,_,_,_⟩:=V.o.form;obtain ⟨u0,u1,u2,s0,s1,s2⟩:=(j.o.mat.rows i ab).2.slots ae;have z0:=(j.o.mat.rows i ab).2.frozen (k*3);have z1:=(j.o.mat.rows i ab).2.frozen (k*3+1);have z2:=(j.o.mat.rows i ab).2.frozen (k*3+2);have aa:Hid (Pv w base m L F cs (T.stA r c i (k+1)) (World.numAt w1 (F.g i) k sx sA sn sc Z)):=j.o.set (by omega) ae V.o (fun i' k' _ _=>T.stA_next r c i k br.o bC.o i' k');have aE:=ze (j.o.keepBox (i:=i) (k:=k) (x:=sx) (X:=sA) (n1:=sn) (c:=sc) (ng:=Z) (by omega) C.o aV.o);have cv:=ze (j.o.keepBox (i:=i) (k:=k) (x:=sx) (X:=sA) (n1:=sn) (c:=sc) (ng:=Z) (by omega) O.o cc.o);clear j C O V
      go_wp2_with fail;go_roundw
      case rel=>exact ⟨k+1,by omega,by go_num,aa,aE,cv⟩
      case measure=>simp [intOf];omega
  obtain rfl:i=m+1:=by omega
  skip
  have t3:wr.cell? ⟨F.gt,3,none⟩=some (.slice (some ⟨F.gm,0,none⟩) (m+1) F.cm):=by rw [j.o.tab.cell, <- aj.o];rfl
  have t4:=j.o.mat.cell (i:=r) (by omega);have ad:Hid (Pv w base m L F cs (T.stB r c 0) wr):=j.o.congr fun i' k' hi' _=>T.stB_start r c m i' k' hi'
  clear j;go_wp2_with fail
  go_loopw [98] (PivR w base m L F cs T r c gp) (fun kv _=>L - (intOf kv).toNat)
  case atStart=>exact ⟨0,Nat.zero_le _,rfl,ad,C⟩
  case round=>
   clear ad C t3 t4;obtain ⟨k,hk,rfl,j,C⟩:=hrel
   by_cases ae:k<L
   . have bJ:(k:Int)<(L:Int):=by omega
     by_cases aw:k=c
     rotate_left
     . have bl:((k:Int) != (c:Int))=true:=by rw [bne_iff_ne];omega
       have bC:=ze aw;obtain ⟨ax,aA,an,ac,ag,a0,Y,U,ha⟩:=j.o.mat.at_ (i:=r) (k:=k) (by omega) ae;rw [T.stB_here] at ha;clear aw;go_wp2_with fail;refine (yY _ _ _ ha).mono ?_;rintro e w1 ⟨v,rfl,B,E⟩;replace j:=ze (j.o.below E);replace C:=ze (C.o.below E);clear ha a0 Y U E;obtain ⟨sx,sA,sn,sc,Z,rfl,_,_,_⟩:=B.form;obtain ⟨u0,u1,u2,s0,s1,s2⟩:=(j.o.mat.rows r (by omega)).2.slots ae;have z0:=(j.o.mat.rows r (by omega)).2.frozen (k*3);have z1:=(j.o.mat.rows r (by omega)).2.frozen (k*3+1);have z2:=(j.o.mat.rows r (by omega)).2.frozen (k*3+2);have aa:Hid (Pv w base m L F cs (T.stB r c (k+1)) (World.numAt w1 (F.g r) k sx sA sn sc Z)):=j.o.set (by omega) ae B (fun i' k' _ _=>T.stB_next r c k bC.o i' k');have aE:=ze (j.o.keepBox (i:=r) (k:=k) (x:=sx) (X:=sA) (n1:=sn) (c:=sc) (ng:=Z) (by omega) C.o aV.o);clear j C B;go_wp2_with fail;go_roundw
       case rel=>(repeat apply Exists.intro);exact ⟨⟨k+1,by omega,by go_num,aa,aE⟩,rfl⟩
       case measure=>simp [intOf];omega
     have bl:((k:Int) != (c:Int))=false:=by rw [bne_eq_false_iff_eq];omega
     have ad:Hid (Pv w base m L F cs (T.stB r c (k+1)) wr):=j.o.congr fun i' k' _ _=>by subst aw;exact T.stB_col r k i' k'
     clear aw j;go_wp2_with fail;go_round
     case rel=>exact ⟨k+1,by omega,by go_num,ad,C⟩
     case measure=>simp [intOf];omega
   obtain rfl:L=k:=by omega
   skip
   have d4:wr.cell? ⟨F.gt,4,none⟩=some (.int .i64 dx):=by rw [j.o.tab.cell, <- aj.o];rfl
   have d5:wr.cell? ⟨F.gt,5,none⟩=some (.slice dA dn dc):=by rw [j.o.tab.cell, <- aj.o];rfl
   have d6:wr.cell? ⟨F.gt,6,none⟩=some (.bool dg):=by rw [j.o.tab.cell, <- aj.o];rfl
   have cd:=j.o.chg.num HD.o ce.o;obtain ⟨u0,u1,u2,s0,s1,s2⟩:=(j.o.mat.rows r (by omega)).2.slots hc;have z0:=(j.o.mat.rows r (by omega)).2.frozen (c*3);have z1:=(j.o.mat.rows r (by omega)).2.frozen (c*3+1);have z2:=(j.o.mat.rows r (by omega)).2.frozen (c*3+2);have aa:Hid (Pv w base m L F cs (T.bare r c) (World.numAt wr (F.g r) c dx dA dn dc dg)):=j.o.set (by omega) hc cd (fun i' k' _ hk' =>T.stB_end r c L i' k' hk');have aE:=ze (j.o.keepBox (i:=r) (k:=c) (x:=dx) (X:=dA) (n1:=dn) (c:=dc) (ng:=dg) (by omega) C.o aV.o);clear j C cd HD
   go_upto_region 23 with fail
   clear d4 d5 d6 u0 u1 u2 s0 s1 s2 z0 z1 z2;obtain ⟨W3,bi⟩:∃ x,x=World.numAt wr (F.g r) c dx dA dn dc dg:=⟨_,rfl⟩;rw [<- bi] at aa aE;have b6:((wr.setCell ⟨F.g r,c*3,none⟩ (.int .i64 dx)).setCell ⟨F.g r,c*3+1,none⟩ (.slice dA dn dc)).setCell ⟨F.g r,c*3+2,none⟩ (.bool dg)=W3:=bi.symm;rw [b6];clear b6 bi;have b4:0<L - 1:=by omega
   obtain ⟨gb,cb,eb,_,_⟩:=bf.o.1.form (Nat.lt_of_le_of_lt (Nat.zero_le _) hr);obtain ⟨go,co,eo,_,_⟩:=a7.o.1.form b4;have aB:=ze (aa.o.own bf.o);have aC:=ze (aa.o.own a7.o);have t7:W3.cell? ⟨F.gt,7,none⟩=some (.slice (some ⟨gb,0,none⟩) m cb):=by rw [aa.o.tab.cell, <- aj.o, <- eb];rfl
   have t8:W3.cell? ⟨F.gt,8,none⟩=some (.slice (some ⟨go,0,none⟩) (L - 1) co):=by rw [aa.o.tab.cell, <- aj.o, <- eo];rfl
   have bm:gb≠go:=fun e=>bw.o gb (by rw [eb];rfl) (by rw [eo,e];rfl)
   rw [eb] at aB;rw [eo] at aC;have b1:W3.cell? ⟨gb,r,none⟩=some (.int .i64 (T.basic r:Nat)):=by rw [aB.o.1.cellAt r (by omega)];exact Zi hr
   have o1:W3.cell? ⟨go,c - 1,none⟩=some (.int .i64 (T.other (c - 1):Nat)):=by rw [aC.o.1.cellAt (c - 1) (by omega)];exact Zi (by omega)
   have z1:=aB.o.1.frozenAt r;have z2:=aC.o.1.frozenAt (c - 1);have cn:(c:Int) - 1<((L - 1:Nat):Int):=by omega
   have cC:(1:Int)<=(c:Int):=by omega
   have ci:((c:Int) - 1).toNat=c - 1:=by omega
   have cr:(r:Int)<(m:Int):=by omega
   clear ch cw
   go_region
   generalize a9:((W3.setCell ⟨gb,r,none⟩ (.int .i64 (T.other (c - 1):Nat))).setCell ⟨go,c - 1,none⟩ (.int .i64 (T.basic r:Nat))).drew=W4
   have a4:Hid (Chg (fun b=>b=gb\/b=go) W3 W4):=by
    rw [<- a9];exact Chg.trans (Chg.setCell (S:=fun b=>b=gb\/b=go) (Chg.setCell (S:=fun b=>b=gb\/b=go) (Chg.refl W3) (p:=⟨gb,r,none⟩) (.inl rfl) _) (p:=⟨go,c - 1,none⟩) (.inr rfl) _) (Chg.of_below (S:=fun b=>b=gb\/b=go) (zu _).out) (fun b _ h=>h)
   have bz:Hid (Zm W4 base 3 1 F.bv m (xd m (T.pivot r c).basic)):=by
    have h1:=aB.o.stored r (vi (T.other (c - 1):Nat));rw [zb6] at h1
    have h2:=h1.chg (Chg.setCell (S:=fun b=>b=go) (Chg.refl _) (p:=⟨go,c - 1,none⟩) rfl (.int .i64 (T.basic r:Nat))) (fun b hb e=>bm (by
     have:gb=b:=by simpa [Value.ownBlock] using hb
     rw [this];exact e))
    have h3:=h2.below (zu _).out;rw [a9, <- eb] at h3;exact h3
   have bk:Hid (Zm W4 base 3 1 F.ov (L - 1) (xd (L - 1) (T.pivot r c).other)):=by
    have h1:=aC.o.chg (Chg.setCell (S:=fun b=>b=gb) (Chg.refl _) (p:=⟨gb,r,none⟩) rfl (.int .i64 (T.other (c - 1):Nat))) (fun b hb e=>bm (by
     have:go=b:=by simpa [Value.ownBlock] using hb
     rw [this];exact e.symm))
    have h2:=h1.stored (c - 1) (vi (T.basic r:Nat));rw [zb6] at h2;have h3:=h2.below (zu _).out;rw [a9, <- eo] at h3;exact h3
   have bV:Hid (gb<w.heap.size):=(bf.o.1.lt gb (by rw [eb];rfl)).2;have bI:Hid (go<w.heap.size):=(a7.o.1.lt go (by rw [eo];rfl)).2
   have hS:∀ b,(b=gb\/b=go)->zZ W3 b:=fun b h=>by
    rcases h with rfl | rfl
    . exact aB.o.2 _ rfl
    . exact aC.o.2 _ rfl
   have ca:∀ b,(b=gb\/b=go)->∀ i,i<=m->b≠F.g i:=fun b h i hi e=>by
    obtain ⟨bs,k1⟩:=(aa.o.mat.rows i (by omega)).2.heap
    rcases h with rfl | rfl
    . obtain ⟨aO,k2⟩:=aB.o.heap (b:=b) rfl
      exact yX k1 k2 (by decide) e.symm
    . obtain ⟨aO,k2⟩:=aC.o.heap (b:=b) rfl
      exact yX k1 k2 (by decide) e.symm
   have bO:¬ (F.gm=gb\/F.gm=go):=fun h=>by
    obtain ⟨bs,k1⟩:=aa.o.mat.own.heap (b:=F.gm) rfl
    rcases h with h | h
    . obtain ⟨aO,k2⟩:=aB.o.heap (b:=gb) rfl
      rw [h] at k1;rw [k1] at k2;injection k2 with k2;injection k2 with _ k3 _;exact absurd k3 (by decide)
    . obtain ⟨aO,k2⟩:=aC.o.heap (b:=go) rfl
      rw [h] at k1;rw [k1] at k2;injection k2 with k2;injection k2 with _ k3 _;exact absurd k3 (by decide)
   have bH:¬ (F.gt=gb\/F.gt=go):=fun h=>by
    rcases h with h | h
    . obtain ⟨aO,k2⟩:=aB.o.heap (b:=gb) rfl
      exact yX aa.o.tab k2 (by decide) h
    . obtain ⟨aO,k2⟩:=aC.o.heap (b:=go) rfl
      exact yX aa.o.tab k2 (by decide) h
   have aS:=ze (aa.o.anew a4.o ca bO hS (a4.o.blk aa.o.tab bH));have bE:=ze (aE.o.chg a4.o (fun h=>by have:=bV.o;have:=bI.o;have:=aV.o;omega) hS)
   have b7:Hid (Chg (F.S m) w W4):=Chg.trans (aa.o.chg.mono (T:=F.S m) (fun b _ h=>.inr (.inl h))) a4.o (fun b _ h=>by
    rcases h with rfl | rfl
    . exact .inr (.inr (.inl (by rw [eb];rfl)))
    . exact .inr (.inr (.inr (by rw [eo];rfl))))
   clear a9 a4 aB aC aa aE hS ca bO bH t7 t8 bm b1 o1 z1 z2 cn ci cr b4 bf a7 bV bI
   skip
   obtain ⟨qx,qA,qn,qc,qg,af,au⟩:=bE.o;have J:=af.cell 0;have M:=af.cell 1;have I:=af.cell 2;simp at J M I;have am:Blk W4 F.gt 128 (F.cells m dx dA dn dc dg):=by rw [aj.o];exact aS.o.tab
   have d4:W4.cell? ⟨F.gt,4,none⟩=some (.int .i64 dx):=by rw [am.cell];rfl
   have d5:W4.cell? ⟨F.gt,5,none⟩=some (.slice dA dn dc):=by rw [am.cell];rfl
   have d6:W4.cell? ⟨F.gt,6,none⟩=some (.bool dg):=by rw [am.cell];rfl
   have z4:=am.frozen 4;have z5:=am.frozen 5;have z6:=am.frozen 6;have bY:zZ W4 F.gt:=am.noDig (zfw (xN bz.o) (xN bk.o))
   have bZ:gp≠F.gt:=fun e=>by
    have:=aS.o.oldt;exact yX af am (by decide) e
   obtain ⟨W5,bd⟩:∃ x,x=((W4.setCell ⟨F.gt,4,none⟩ (.int .i64 qx)).setCell ⟨F.gt,5,none⟩ (.slice qA qn qc)).setCell ⟨F.gt,6,none⟩ (.bool qg):=⟨_,rfl⟩;have aQ:Chg (· =F.gt) W4 W5:=by rw [bd];exact zpe
   have aI:∀ b,b=F.gt->zZ W4 b:=fun b e=>by subst e;exact bY
   have bp:Blk W5 F.gt 128 (F.cells m qx qA qn qc qg):=by rw [bd];exact zon am
   have av:=ze (aS.o.anew aQ (fun b e i hi Q=>by subst e;exact aS.o.ntab hi Q) (fun e=>by
    obtain ⟨bs,k1⟩:=aS.o.mat.own.heap (b:=F.gm) rfl
    exact yX am k1 (by decide) e.symm) aI bp)
   have aR:=ze (bE.o.chg aQ bZ aI)
   have aN:∀ v n xs,Zm W4 base 3 1 v n xs->Zm W5 base 3 1 v n xs:=fun v n xs h=>h.chg aQ (fun b hb e=>by
    obtain ⟨aO,k2⟩:=h.heap hb
    exact yX am k2 (by decide) e.symm)
   have aD:=ze (aN _ _ _ bz.o);have az:=ze (aN _ _ _ bk.o);have aF:Hid (Chg (F.S m) w W5):=Chg.trans b7.o aQ (fun b _ e=>.inl e);have ah:=ze bp;have bu:=ze (aQ.num au aI);clear bz bk aS bE b7 am bY aI aN aQ bp af au
   go_upto_region 25 with fail
   rw [<- bd];clear bd J M I d4 d5 d6 z4 z5 z6 bZ;obtain ⟨cE,cB,cD,cG,cF,af,au⟩:=aR.o;have J:=af.cell 0;have M:=af.cell 1;have I:=af.cell 2;simp at J M I;have HQ:=ze au
   skip
   have aT:=fun w' (h:Below W5.heap.size W5 w')=>X4 _ _ w' (au.below h)
   by_cases aP:T.cell r c<0
   rotate_left
   . obtain ⟨Z,bM,cA⟩:∃ Z:Int,zP (T.cell r c) 0=Z/\¬ Z<0:=by
      unfold zP;rw [if_neg aP]
      split
      . exact ⟨1,rfl,by omega⟩
      exact ⟨0,rfl,by omega⟩
     rw [bM] at aT;have a6:=zqw (T:=T) (r:=r) (c:=c) aP;have aZ:=ze a6;clear au aP bM a6;go_wp2_with fail;refine (aT _ (vh _)).mono ?_;rintro e w1 ⟨rfl,E⟩;clear aT J M I af;have cg:=ze (av.o.below E);have cz:=ze (aD.o.below E);have cy:=ze (az.o.below E);have cu:=ze (bu.o.below E);have cp:Hid (Chg (F.S m) w w1):=Chg.trans aF.o (Chg.of_below (S:=F.S m) E) (fun _ _ h=>h);clear E av aR aD az ah HQ aF bu;go_wp2_with fail
     go_end0
     refine ⟨rfl,yi.of_pv cg.o ?_ (fun i k _ _=>aZ.o.2 i k) cz.o cy.o bw.o b8.o b9.o,cp.o⟩;rw [aZ.o.1];exact cu.o
   have e:zP (T.cell r c) 0= -1:=by unfold zP;rw [if_pos aP]
   rw [e] at aT;have a6:=znw (T:=T) (r:=r) (c:=c) aP;have aZ:=ze a6;clear au aP e a6;go_wp2_with fail;refine (aT _ (vh _)).mono ?_;rintro e w1 ⟨rfl,E⟩;clear aT J M I af;replace av:=ze (av.o.below E);replace aR:=ze (aR.o.below E);replace aD:=ze (aD.o.below E);replace az:=ze (az.o.below E);replace ah:=kb_ ah E;replace HQ:=ze (HQ.o.below E);replace aF:Hid (Chg (F.S m) w w1):=Chg.trans aF.o (Chg.of_below (S:=F.S m) E) (fun _ _ h=>h);clear E bu;obtain ⟨qx,qA,qn,qc,qg,af,au⟩:=aR.o;have J:=af.cell 0;have M:=af.cell 1;have I:=af.cell 2;simp at J M I;clear HQ af;go_wp2_with fail;refine (yY _ _ _ au).mono ?_;rintro e w2 ⟨v,rfl,B,E⟩;replace av:=ze (av.o.below E);replace aD:=ze (aD.o.below E);replace az:=ze (az.o.below E);replace ah:=kb_ ah E;replace aF:Hid (Chg (F.S m) w w2):=Chg.trans aF.o (Chg.of_below (S:=F.S m) E) (fun _ _ h=>h);clear J M I au E aR;obtain ⟨sx,sA,sn,sc,Z,rfl,_,_,_⟩:=B.form;have z4:=ah.o.frozen 4;have z5:=ah.o.frozen 5
   have z6:=ah.o.frozen 6;have d4:=ah.o.cell 4;have d5:=ah.o.cell 5;have d6:=ah.o.cell 6
   simp [ya.cells] at d4 d5 d6
   obtain ⟨W7,bh⟩:∃ x,x=((w2.setCell ⟨F.gt,4,none⟩ (.int .i64 sx)).setCell ⟨F.gt,5,none⟩ (.slice sA sn sc)).setCell ⟨F.gt,6,none⟩ (.bool Z):=⟨_,rfl⟩;have aX:Chg (· =F.gt) w2 W7:=by rw [bh];exact zpe
   have bR:zZ w2 F.gt:=ah.o.noDig (zfw (xN aD.o) (xN az.o));have aI:∀ b,b=F.gt->zZ w2 b:=fun b e=>by subst e;exact bR
   have bQ:Blk W7 F.gt 128 (F.cells m sx sA sn sc Z):=by rw [bh];exact zon ah.o
   have aW:=ze (av.o.anew aX (fun b e i hi Q=>by subst e;exact av.o.ntab hi Q) (fun e=>by
    obtain ⟨bs,k1⟩:=av.o.mat.own.heap (b:=F.gm) rfl
    exact yX ah.o k1 (by decide) e.symm) aI bQ)
   have aN:∀ v n xs,Zm w2 base 3 1 v n xs->Zm W7 base 3 1 v n xs:=fun v n xs h=>h.chg aX (fun b hb e=>by
    obtain ⟨aO,k2⟩:=h.heap hb
    exact yX ah.o k2 (by decide) e.symm)
   have ct:=ze (aN _ _ _ aD.o);have ck:=ze (aN _ _ _ az.o);have cl:Hid (Chg (F.S m) w W7):=Chg.trans aF.o aX (fun b _ e=>.inl e);have cf:=ze (aX.num B aI);have cx:Hid (∀ b,F.rows m b->zZ W7 b):=fun b ⟨i,hi,e⟩=>by subst e;exact aW.o.noDig hi
   clear aD az av aF bR aI aN aX bQ B ah
   go_upto_region 27 with fail
   rw [<- bh];clear bh d4 d5 d6 z4 z5 z6;obtain ⟨aU,bB⟩:∃ aU,Hid (F.cells m sx sA sn sc Z=aU):=⟨_,rfl⟩;rw [bB.o] at aW;have t3:W7.cell? ⟨F.gt,3,none⟩=some (.slice (some ⟨F.gm,0,none⟩) (m+1) F.cm):=by rw [aW.o.tab.cell, <- bB.o];rfl
   go_wp2_with fail
   go_loopw [165] (PivD W7 base m L F aU (T.bare r c)) (fun iv _=>m+1 - (intOf iv).toNat)
   case atStart=>exact ⟨0,Nat.zero_le _,rfl,aW.o.congr fun i k _ _=>zpu _ i k⟩
   case round=>
    clear aW t3;obtain ⟨i,hi,rfl,j⟩:=hrel
    by_cases ab:i<m+1
    rotate_left
    . obtain rfl:i=m+1:=by omega
      go_wp2_with fail
      go_end0
      refine ⟨rfl,yi.of_pv (w0:=W7) (A:=fun i k=> -(T.bare r c i k)) (x:=sx) (X:=sA) (n:=sn) (c:=sc) (ng:=Z) ?_ ?_ ?_ (j.o.own ct.o) (j.o.own ck.o) bw.o b8.o b9.o,cl.o.trans (j.o.chg.mono (T:=F.S m) (fun b _ h=>.inr (.inl h))) (fun _ _ h=>h)⟩
      . rw [bB.o];exact j.o.congr fun i' k' hi' _=>(zub _ m i' k' hi').symm
      . rw [aZ.o.1];exact j.o.chg.num cf.o cx.o
      . exact fun i k _ _=>aZ.o.2 i k
    have cj:(i:Int)<(m:Int)+1:=by omega
    have t4:=j.o.mat.cell (i:=i) ab;go_wp2_with fail
    go_loopw [171] (PivE W7 base m L F aU (T.bare r c) i) (fun kv _=>L - (intOf kv).toNat)
    case atStart=>exact ⟨0,Nat.zero_le _,rfl,j⟩
    case round=>
     clear j t4;obtain ⟨k,hk,rfl,j⟩:=hrel
     by_cases ae:k<L
     . have bJ:(k:Int)<(L:Int):=by omega
       obtain ⟨ax,aA,an,ac,ag,a0,Y,U,ha⟩:=j.o.mat.at_ (i:=i) (k:=k) ab ae;rw [zrd] at ha;go_wp2_with fail;refine (yY _ _ _ ha).mono ?_;rintro e w3 ⟨v,rfl,B,E⟩;replace j:=ze (j.o.below E);clear ha a0 Y U E;obtain ⟨sx,sA,sn,sc,Z,rfl,_,_,_⟩:=B.form;obtain ⟨u0,u1,u2,s0,s1,s2⟩:=(j.o.mat.rows i ab).2.slots ae;have z0:=(j.o.mat.rows i ab).2.frozen (k*3);have z1:=(j.o.mat.rows i ab).2.frozen (k*3+1);have z2:=(j.o.mat.rows i ab).2.frozen (k*3+2);have aa:Hid (Pv W7 base m L F aU (stD (T.bare r c) i (k+1)) (World.numAt w3 (F.g i) k sx sA sn sc Z)):=j.o.set (by omega) ae B (fun i' k' _ _=>zsg _ i k i' k');clear j B;go_wp2_with fail;go_roundw
       case rel=>first | exact ⟨k+1,by omega,by go_num,aa⟩ | ((repeat apply Exists.intro);exact ⟨⟨k+1,by omega,by go_num,aa⟩,rfl⟩)
       case measure=>simp [intOf];omega
     obtain rfl:L=k:=by omega
     have ad:Hid (Pv W7 base m L F aU (stD (T.bare r c) (i+1) 0) wr):=j.o.congr fun i' k' _ hk' =>zuy _ i L i' k' hk'
     clear j;go_wp2_with fail;go_round
     case rel=>exact ⟨i+1,by omega,by go_num,ad⟩
     case measure=>simp [intOf];omega
end Go.Proofs.YthbmhkiphmcogaaGreatDoor
