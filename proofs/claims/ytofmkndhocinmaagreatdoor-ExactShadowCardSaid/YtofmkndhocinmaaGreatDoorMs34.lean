/- Parts of the proof. -/
import Derived.Deep.CutRange
import Derived.Test.YtofmkndhocinmaaGreatDoorMs16
import Derived.Test.YtofmkndhocinmaaGreatDoorMs17
set_option linter.all false
namespace Go.Proofs.YtofmkndhocinmaaGreatDoor
open Proofs.Tryz Go.RowKit Go.Deep
attribute [local go_sem ↓] Go.wp_at_zero Go.wp_at_succ
theorem Fit.le {z:Int} (h:Fit z) {M:Nat} (hM:8388608<=M):len 4294967296 z.natAbs<=M:=uC h hM
theorem Yr {a b:Int} (ha:Fit a) (hb:Fit b):len 4294967296 (a*b).natAbs<=16777216:=Zc (M:=8388608) (K:=8388608) ha hb
theorem zsm {a b:Int} {M:Nat} (ha:len 4294967296 a.natAbs<=M) (hb:len 4294967296 b.natAbs<=M):len 4294967296 (a - b).natAbs<=M+1:=by
 rw [Int.sub_eq_add_neg]
 exact zje ha (by rw [Int.natAbs_neg];exact hb)
def PivA (w0:World) (base m L:Nat) (F:zN) (cs:Array Value) (T:y8) (r c gp:Nat) (iv:Value) (wr:World):Prop:=
 ∃ i:Nat,i<=m+1/\iv= .int .i64 i/\Hid (Pv w0 base m L F cs (T.stA r c i 0) wr)/\Hid (ZD wr gp (T.cell r c))
def PivB (w0:World) (base m L:Nat) (F:zN) (cs:Array Value) (T:y8) (r c gp i gf:Nat) (kv:Value) (wr:World):Prop:=
 ∃ k:Nat,k<=L/\kv= .int .i64 k/\Hid (Pv w0 base m L F cs (T.stA r c i k) wr)/\Hid (ZD wr gp (T.cell r c))/\Hid (ZD wr gf (T.cell i c))
def PivR (w0:World) (base m L:Nat) (F:zN) (cs:Array Value) (T:y8) (r c gp:Nat) (kv:Value) (wr:World):Prop:=
 ∃ k:Nat,k<=L/\kv= .int .i64 k/\Hid (Pv w0 base m L F cs (T.stB r c k) wr)/\Hid (ZD wr gp (T.cell r c))
def PivD (w0:World) (base m L:Nat) (F:zN) (cs:Array Value) (A:Nat->Nat->Int) (iv:Value) (wr:World):Prop:=∃ i:Nat,i<=m+1/\iv= .int .i64 i/\Hid (Pv w0 base m L F cs (stD A i 0) wr)
def PivE (w0:World) (base m L:Nat) (F:zN) (cs:Array Value) (A:Nat->Nat->Int) (i:Nat) (kv:Value) (wr:World):Prop:=∃ k:Nat,k<=L/\kv= .int .i64 k/\Hid (Pv w0 base m L F cs (stD A i k) wr)
theorem zlp {T:y8} {r c:Nat} (h:¬ T.cell r c<0):(T.pivot r c).den=T.cell r c/\∀ i k,(T.pivot r c).cell i k=T.bare r c i k:=by
 unfold y8.pivot
 exact ⟨by simp only [if_neg h],fun i k=>by simp only [if_neg h]⟩
theorem zna {T:y8} {r c:Nat} (h:T.cell r c<0):(T.pivot r c).den= -(T.cell r c)/\∀ i k,(T.pivot r c).cell i k= -(T.bare r c i k):=by
 unfold y8.pivot
 exact ⟨by simp only [if_pos h],fun i k=>by simp only [if_pos h]⟩
def ztw (base m L:Nat) (F:zN) (T:y8) (w:World) (e:Ending) (w' :World):Prop:=e= .returned (.tuple #[])/\zX base m L F w' T/\Chg (F.S m) w w'
set_option maxRecDepth 100000 in
set_option maxHeartbeats 8000000 in
theorem zhl (base m L:Nat) (F:zN) (T:y8) (r c:Nat) (w:World) (hT:zX base m L F w T) (hf:T.Fits m L) (hr:r<m) (hc0:0<c) (hc:c<L) (hm:m<=100000) (hL:L<=100000) (hb:base<=w.heap.size):
 Calls prog 112 #[.pointer (some ⟨F.gt,0,none⟩),.int .i64 r,.int .i64 c] w (ztw base m L F (T.pivot r c) w):=by
 obtain ⟨⟨dx,dA,dn,dc,dg,bl,b3⟩,aT,bD,bN,bC,bG,bS⟩:=hT
 have j:Hid (Pv w base m L F (F.cells m dx dA dn dc dg) T.cell w):=⟨aT,bl,Chg.refl w,fun i hi=>⟨(aT.rows i (by omega)).2.lt,(aT.rows i (by omega)).2.heap⟩,bl.lt,aT.lt.2,hb⟩
 obtain ⟨HD,aZ,a3,bs,bQ,bM,HF,HB⟩:=hz8 b3 bD bN bC bG bS hf hb
 have bE:Hid (∀ b,F.rows m b->zK w b):=fun b ⟨i,hi,e⟩=>by subst e;exact j.o.noDig hi
 clear bl b3 aT bD bN bC bG bS hf hb
 obtain ⟨cs,ae⟩:∃ cs,Hid (F.cells m dx dA dn dc dg=cs):=⟨_,rfl⟩
 rw [ae.o] at j
 have t3:w.cell? ⟨F.gt,3,none⟩=some (.slice (some ⟨F.gm,0,none⟩) (m+1) F.cm):=by rw [j.o.tab.cell, <- ae.o];rfl
 have t4:=j.o.mat.cell (i:=r) (by omega)
 obtain ⟨px,pA,pn,pc,pg,p0,p1,p2,hp⟩:=j.o.mat.at_ (i:=r) (k:=c) (by omega) hc
 have ce:(r:Int)<(m:Int)+1:=by omega
 have ci:(c:Int)<(L:Int):=by omega
 have hx:=zf w (.cells #[.int .i64 px,.slice pA pn pc,.bool pg] 60)
 have u:Hid (ZD (w.alloc (.cells #[.int .i64 px,.slice pA pn pc,.bool pg] 60)) w.heap.size (T.cell r c)):=⟨px,pA,pn,pc,pg,Blk.new _ _ _,hp.below hx⟩
 have R:=ze (j.o.below hx)
 clear hp j hx
 go_in
 go_upto_region 1 with fail
 clear t3 t4 p0 p1 p2
 generalize w.alloc (.cells #[.int .i64 px,.slice pA pn pc,.bool pg] 60)=W1 at u R |-
 have aN:=ze (Nat.le_refl w.heap.size)
 generalize bU:w.heap.size=gp at u |-
 have aN:Hid (w.heap.size<=gp):=ze (Nat.le_of_eq bU)
 clear bU
 have t3:W1.cell? ⟨F.gt,3,none⟩=some (.slice (some ⟨F.gm,0,none⟩) (m+1) F.cm):=by rw [R.o.tab.cell, <- ae.o];rfl
 go_wp2
 go_loopw [32] (PivA w base m L F cs T r c gp) (fun iv _=>m+1 - (intOf iv).toNat)
 case atStart=>exact ⟨0,uB,rfl,R.o.congr fun i k _ _=>T.stA_start r c i k,u⟩
 case round=>
  clear R u t3
  obtain ⟨i,hi,rfl,j,u⟩:=hrel
  by_cases O:i<m+1
  . have ct:(i:Int)<(m:Int)+1:=by omega
    have t4:=j.o.mat.cell (i:=i) O
    by_cases a5:i=r
    . have hd:((i:Int) == (r:Int))=true:=by rw [beq_iff_eq];omega
      have R:Hid (Pv w base m L F cs (T.stA r c (i+1) 0) wr):=j.o.congr fun i' k' _ _=>by subst a5;exact T.stA_skip i c i' k'
      clear a5 j;go_wp2;go_round
      case rel=>exact ⟨i+1,by omega,by go_num,R,u⟩
      case measure=>simp [intOf];omega
    have hd:((i:Int) == (r:Int))=false:=by rw [beq_eq_false_iff_ne];omega
    have bk:=ze a5;obtain ⟨fx,fA,fn,fc,fg,f0,f1,f2,aw⟩:=j.o.mat.at_ (i:=i) (k:=c) O hc;rw [T.stA_col0] at aw;have hx:=zf wr (.cells #[.int .i64 fx,.slice fA fn fc,.bool fg] 60);have C:Hid (ZD (wr.alloc (.cells #[.int .i64 fx,.slice fA fn fc,.bool fg] 60)) wr.heap.size (T.cell i c)):=⟨fx,fA,fn,fc,fg,Blk.new _ _ _,aw.below hx⟩;have R:=ze (j.o.below hx);have bw:=ze (u.o.below hx);have b4:=ze j.o.ge;clear aw j u hx a5
    go_upto_region 6 with fail
    clear f0 f1 f2;generalize wr.alloc (.cells #[.int .i64 fx,.slice fA fn fc,.bool fg] 60)=W2 at C R bw |-;generalize wr.heap.size=gf at C b4 |-;clear t4;go_wp2
    go_loopw [46] (PivB w base m L F cs T r c gp i gf) (fun kv _=>L - (intOf kv).toNat)
    case atStart=>exact ⟨0,uB,rfl,R,bw,C⟩
    case round=>
     clear R bw C;obtain ⟨k,hk,rfl,j,u,C⟩:=hrel
     by_cases ab:k<L
     rotate_left
     . obtain rfl:k=L:=by omega
       skip
       have t4:=j.o.mat.cell (i:=i) O;obtain ⟨u0,u1,u2,s0,s1,s2⟩:=(j.o.mat.rows i O).2.slots hc;have f0:=(j.o.mat.rows i O).2.frozen (c*3);have f1:=(j.o.mat.rows i O).2.frozen (c*3+1);have f2:=(j.o.mat.rows i O).2.frozen (c*3+2);obtain ⟨fx,fA,fn,fc,fg,aQ,aw⟩:=C.o;obtain ⟨e0,e1,e2,_⟩:=bp3 aQ;have I:Hid (Pv w base m k F cs (T.stA r c (i+1) 0) (World.numAt wr (F.g i) c fx fA fn fc fg)):=j.o.set (by omega) hc aw fun i' k' _ hk' =>T.stA_end r c i k bk.o i' k' hk'
       have aq:=ze (j.o.keepBox (i:=i) (k:=c) (x:=fx) (X:=fA) (n1:=fn) (c:=fc) (ng:=fg) (by omega) u.o aN.o);clear aQ aw j u C;go_wp2;go_round
       case rel=>exact ⟨i+1,by omega,by go_num,I,aq⟩
       case measure=>simp [intOf];omega
     have bJ:(k:Int)<(L:Int):=by omega
     by_cases au:k=c
     . have bp:((k:Int) == (c:Int))=true:=by rw [beq_iff_eq];omega
       have R:Hid (Pv w base m L F cs (T.stA r c i (k+1)) wr):=j.o.congr fun i' k' _ _=>by subst au;exact T.stA_col r k i bk.o i' k'
       clear au j;go_wp2;go_round
       case rel=>exact ⟨k+1,by omega,by go_num,R,u,C⟩
       case measure=>simp [intOf];omega
     have bp:((k:Int) == (c:Int))=false:=by rw [beq_eq_false_iff_ne];omega
     have bq:=ze au;clear au;have t3:wr.cell? ⟨F.gt,3,none⟩=some (.slice (some ⟨F.gm,0,none⟩) (m+1) F.cm):=by rw [j.o.tab.cell, <- ae.o];rfl
     have t4:=j.o.mat.cell (i:=r) (by omega);obtain ⟨ax,aA,an,ac,ag,a0,a1,a2,ha⟩:=j.o.mat.at_ (i:=i) (k:=k) O ab;rw [T.stA_here] at ha;obtain ⟨bx,bA,bn,bc,bg,b0,b1,b2,bB⟩:=j.o.mat.at_ (i:=r) (k:=k) (by omega) ab;rw [T.stA_row] at bB;obtain ⟨px,pA,pn,pc,pg,be,b9⟩:=u.o;obtain ⟨fx,fA,fn,fc,fg,aQ,aw⟩:=C.o;obtain ⟨q0,q1,q2,_⟩:=bp3 be;obtain ⟨e0,e1,e2,_⟩:=bp3 aQ;have tL:=j.o.tab.lt;have mL:=j.o.mat.lt.2;have aL:=(j.o.mat.rows i O).2.lt;have bL:=(j.o.mat.rows r (by omega)).2.lt;have pL:=be.lt;have fL:=aQ.lt;obtain ⟨a7,a8,HA,aF,aH,aG⟩:=hz6 pL fL ha bB b9 aw;have N1:=ze (HF.o.cell i k (by omega) ab);have N2:=ze (HF.o.cell r c (by omega) hc);have N3:=ze (HF.o.cell i c (by omega) hc);have N4:=ze (HF.o.cell r k (by omega) ab);clear ha bB be b9 aQ aw
     go_upto_region 10 with fail
     go_cut [11,46] from 46 to 83 (fun M si wc=>si= .int .i64 k/\∃ gx,M= .pointer (some ⟨gx,0,none⟩)/\Hid (w.heap.size<=gx)/\Hid (ZD wc gx (T.cell i k*T.cell r c - T.cell i c*T.cell r k))/\Hid (Pv w base m L F cs (T.stA r c i k) wc)/\Hid (ZD wc gp (T.cell r c))/\Hid (ZD wc gf (T.cell i c)))
     case first=>
      skip
      have Y:∀ w',Hid (Below wr.heap.size wr w')->w'.cell? ⟨F.gt,3,none⟩=some (.slice (some ⟨F.gm,0,none⟩) (m+1) F.cm)/\w'.cell? ⟨F.gm,r,none⟩=some (.slice (some ⟨F.g r,0,none⟩) L L)/\w'.cell? ⟨F.g i,k*3,none⟩=some (.int .i64 ax)/\w'.cell? ⟨F.g i,k*3+1,none⟩=some (.slice aA an ac)/\w'.cell? ⟨F.g i,k*3+2,none⟩=some (.bool ag)/\w'.cell? ⟨F.g r,k*3,none⟩=some (.int .i64 bx)/\w'.cell? ⟨F.g r,k*3+1,none⟩=some (.slice bA bn bc)/\w'.cell? ⟨F.g r,k*3+2,none⟩=some (.bool bg)/\w'.cell? ⟨gp,0,none⟩=some (.int .i64 px)/\w'.cell? ⟨gp,1,none⟩=some (.slice pA pn pc)/\w'.cell? ⟨gp,2,none⟩=some (.bool pg)/\w'.cell? ⟨gf,0,none⟩=some (.int .i64 fx)/\w'.cell? ⟨gf,1,none⟩=some (.slice fA fn fc)/\w'.cell? ⟨gf,2,none⟩=some (.bool fg):=fun w' hB=>⟨zk hB tL t3,zk hB mL t4,zk hB aL a0,zk hB aL a1,zk hB aL a2,zk hB bL b0,zk hB bL b1,zk hB bL b2,zk hB pL q0,zk hB pL q1,zk hB pL q2,zk hB fL e0,zk hB fL e1,zk hB fL e2⟩
      refine xb Y 5 15 20 (zw wr) fun l=>?_;simp only [xDR]
      iterate 5 refine zP ?_
      refine zD ?_;refine tK 6 ?_;refine tK 7 ?_;refine tK 8 ?_;refine tK 9 ?_;refine tK 10 ?_;refine tK 11 ?_;refine tK 12 ?_;refine tK 13 ?_;refine tK 14 ?_;refine tK 15 ?_;refine tK 16 ?_;have bh:=ze j.o.ge;refine HH.ready (rs:=[5,19]) (by kernel_rfl) (by simp) (by kernel_rfl) ?_;refine Za.cons (o:=_) rfl (fun K hK=>?_) (Za.cons (o:=_) rfl (fun K hK=>?_) Za.nil)
      rotate_left
      . skip
        go_simp
        have B:Hid (Blk _ wr.heap.size 60 #[.int .i64 0,.slice none 0 0,.bool false]):=(Blk.new wr 60 #[.int .i64 0,.slice none 0 0,.bool false]).drew;have ah:Hid (wr.heap.size<=wr.heap.size):=uA;refine hK.out _ _ (zl (vz wr _) (Y _)) ?_;clear hK K l;intro l
        try simp only [Act.put,xST]
        refine rK 5 fun K hK=>?_
        go_simp
        go_at_call 66;refine (xi _ _ _ _ _ (HA.o.below l.1.out) (aH.o.below l.1.out) (N1.o.le (by omega)) (N2.o.le (by omega))).mono ?_;rintro e w1 ⟨v1,rfl,y,z⟩;have E:=ze y;clear y;replace B:=kb_ B z;refine hK.out _ _ (zl (zo z l.1) (Y _)) ?_;clear hK K l;intro l
        try simp only [Act.put,xST]
        clear z;refine rK 17 fun K hK=>?_
        go_simp
        go_at_call 66;refine (xi _ _ _ _ _ (aG.o.below l.1.out) (aF.o.below l.1.out) (N3.o.le (by omega)) (N4.o.le (by omega))).mono ?_;rintro e Z ⟨v2,rfl,y,af⟩;replace E:=ze (E.o.below af);have ai:=ze y;clear y;replace B:=kb_ B af;refine hK.out _ _ (zl (zo af l.1) (Y _)) ?_;clear hK K l;intro l
        try simp only [Act.put,xST]
        clear af;refine rK 18 fun K hK=>?_
        go_simp
        go_at_call 100;refine (zb0 _ _ _ _ _ E.o ai.o (uC (Yr N1.o N2.o) (by omega)) (uC (Yr N3.o N4.o) (by omega))).mono ?_;rintro e w3 ⟨v3,rfl,y,ad⟩;have ak:=ze y;clear y;clear E ai;replace B:=kb_ B ad;refine hK.out _ _ (zl (zo ad l.1) (Y _)) ?_;clear hK K l;intro l
        try simp only [Act.put,xST]
        clear ad;have D:=l.1.out;replace j:=ze (Pv.below j.o D);replace u:=ze (ZD.below u.o D);replace C:=ze (ZD.below C.o D);clear D;refine HH.done (by kernel_rfl) ?_;simp only [List.drop_succ_cons,List.drop_zero];clear HA aF aH aG N1 N2 N3 N4 a0 a1 a2 b0 b1 b2 q0 q1 q2 e0 e1 e2 tL mL aL bL pL fL t3 t4 l;have ba:=j.o.ge;obtain ⟨M,Q,U,V,G,rfl,_,_,_⟩:=ak.o.form;have r0:=B.o.cell 0;have r1:=B.o.cell 1;have r2:=B.o.cell 2;obtain ⟨z0,z1,z2⟩:=fq3 B;simp at r0 r1 r2;have aC:Hid (w.heap.size<=wr.heap.size):=by have:=ah.o;have:=bh.o;show _<=_;omega
        go_wp2;go_meet;have al:=B.o.noDig (Xq _ _ _ _ _);have n1:gp≠wr.heap.size:=by have:=a7.o;have:=ah.o;omega
        have n2:gf≠wr.heap.size:=by have:=a8.o;have:=ah.o;omega
        exact ⟨rfl,wr.heap.size,rfl,aC,zan B.o ak.o,j.o.box Z8 aC.o al,u.o.chg Z8 n1 (fun b e=>by subst e;exact al),C.o.chg Z8 n2 (fun b e=>by subst e;exact al)⟩
      skip
      go_simp
      go_at_call 66;refine (xi _ _ _ _ _ (HA.o.below l.1.out) (aH.o.below l.1.out) (N1.o.le (by omega)) (N2.o.le (by omega))).mono ?_;rintro e w1 ⟨v1,rfl,y,z⟩;have E:=ze y;clear y;refine hK.out _ _ (zl (zo z l.1) (Y _)) ?_;clear hK K l;intro l
      try simp only [Act.put,xST]
      clear z;refine HH.ready (rs:=[17,19]) (by kernel_rfl) (by simp) (by kernel_rfl) ?_;refine Za.cons (o:=_) rfl (fun K hK=>?_) (Za.cons (o:=_) rfl (fun K hK=>?_) Za.nil)
      rotate_left
      . skip
        go_simp
        have aD:=zf w1 (.cells #[.int .i64 0,.slice none 0 0,.bool false] 60);have B:Hid (Blk _ w1.heap.size 60 #[.int .i64 0,.slice none 0 0,.bool false]):=Blk.new w1 _ _;have ah:Hid (wr.heap.size<=w1.heap.size):=l.1.out.size;replace E:=ze (E.o.below aD);clear aD;refine hK.out _ _ (zl (zcj l.1) (Y _)) ?_;clear hK K l;intro l
        try simp only [Act.put,xST]
        refine rK 17 fun K hK=>?_
        go_simp
        go_at_call 66;refine (xi _ _ _ _ _ (aG.o.below l.1.out) (aF.o.below l.1.out) (N3.o.le (by omega)) (N4.o.le (by omega))).mono ?_;rintro e Z ⟨v2,rfl,y,af⟩;replace E:=ze (E.o.below af);have ai:=ze y;clear y;replace B:=kb_ B af;refine hK.out _ _ (zl (zo af l.1) (Y _)) ?_;clear hK K l;intro l
        try simp only [Act.put,xST]
        clear af;refine rK 18 fun K hK=>?_
        go_simp
        go_at_call 100;refine (zb0 _ _ _ _ _ E.o ai.o (uC (Yr N1.o N2.o) (by omega)) (uC (Yr N3.o N4.o) (by omega))).mono ?_;rintro e w3 ⟨v3,rfl,y,ad⟩;have ak:=ze y;clear y;clear E ai;replace B:=kb_ B ad;refine hK.out _ _ (zl (zo ad l.1) (Y _)) ?_;clear hK K l;intro l
        try simp only [Act.put,xST]
        clear ad;have D:=l.1.out;replace j:=ze (Pv.below j.o D);replace u:=ze (ZD.below u.o D);replace C:=ze (ZD.below C.o D);clear D;refine HH.done (by kernel_rfl) ?_;simp only [List.drop_succ_cons,List.drop_zero];clear HA aF aH aG N1 N2 N3 N4 a0 a1 a2 b0 b1 b2 q0 q1 q2 e0 e1 e2 tL mL aL bL pL fL t3 t4 l;have ba:=j.o.ge;obtain ⟨M,Q,U,V,G,rfl,_,_,_⟩:=ak.o.form;have r0:=B.o.cell 0;have r1:=B.o.cell 1;have r2:=B.o.cell 2;obtain ⟨z0,z1,z2⟩:=fq3 B;simp at r0 r1 r2;have aC:Hid (w.heap.size<=w1.heap.size):=by have:=ah.o;have:=bh.o;show _<=_;omega
        go_wp2;go_meet;have al:=B.o.noDig (Xq _ _ _ _ _);have n1:gp≠w1.heap.size:=by have:=a7.o;have:=ah.o;omega
        have n2:gf≠w1.heap.size:=by have:=a8.o;have:=ah.o;omega
        exact ⟨rfl,w1.heap.size,rfl,aC,zan B.o ak.o,j.o.box Z8 aC.o al,u.o.chg Z8 n1 (fun b e=>by subst e;exact al),C.o.chg Z8 n2 (fun b e=>by subst e;exact al)⟩
      skip
      go_simp
      go_at_call 66;refine (xi _ _ _ _ _ (aG.o.below l.1.out) (aF.o.below l.1.out) (N3.o.le (by omega)) (N4.o.le (by omega))).mono ?_;rintro e Z ⟨v2,rfl,y,af⟩;replace E:=ze (E.o.below af);have ai:=ze y;clear y;refine hK.out _ _ (zl (zo af l.1) (Y _)) ?_;clear hK K l;intro l
      try simp only [Act.put,xST]
      clear af;refine HH.ready (rs:=[18,19]) (by kernel_rfl) (by simp) (by kernel_rfl) ?_;refine Za.cons (o:=_) rfl (fun K hK=>?_) (Za.cons (o:=_) rfl (fun K hK=>?_) Za.nil)
      . skip
        go_simp
        go_at_call 100;refine (zb0 _ _ _ _ _ E.o ai.o (uC (Yr N1.o N2.o) (by omega)) (uC (Yr N3.o N4.o) (by omega))).mono ?_;rintro e w3 ⟨v3,rfl,y,ad⟩;have ak:=ze y;clear y;clear E ai;refine hK.out _ _ (zl (zo ad l.1) (Y _)) ?_;clear hK K l;intro l
        try simp only [Act.put,xST]
        clear ad;have D:=l.1.out;replace j:=ze (Pv.below j.o D);replace u:=ze (ZD.below u.o D);replace C:=ze (ZD.below C.o D);clear D;refine rK 19 fun K hK=>?_
        go_simp
        have aD:=zf w3 (.cells #[.int .i64 0,.slice none 0 0,.bool false] 60);clear aD;refine hK.out _ _ (zl (zcj l.1) (Y _)) ?_;clear hK K l;intro l
        try simp only [Act.put,xST]
        refine HH.done (by kernel_rfl) ?_;simp only [List.drop_succ_cons,List.drop_zero];clear HA aF aH aG N1 N2 N3 N4 a0 a1 a2 b0 b1 b2 q0 q1 q2 e0 e1 e2 tL mL aL bL pL fL t3 t4 l;have ba:=j.o.ge;obtain ⟨M,Q,U,V,G,rfl,_,_,_⟩:=ak.o.form;go_wp2;go_meet;have hx:=zf w3 (.cells #[.int .i64 M,.slice Q U V,.bool G] 60);exact ⟨rfl,w3.heap.size,rfl,ba,⟨M,Q,U,V,G,Blk.new _ _ _,ak.o.below hx⟩,j.o.below hx,u.o.below hx,C.o.below hx⟩
      skip
      go_simp
      have aD:=zf Z (.cells #[.int .i64 0,.slice none 0 0,.bool false] 60);have B:Hid (Blk _ Z.heap.size 60 #[.int .i64 0,.slice none 0 0,.bool false]):=Blk.new Z _ _;have ah:Hid (wr.heap.size<=Z.heap.size):=l.1.out.size;replace E:=ze (E.o.below aD);replace ai:=ze (ai.o.below aD);clear aD;refine hK.out _ _ (zl (zcj l.1) (Y _)) ?_;clear hK K l;intro l
      try simp only [Act.put,xST]
      refine rK 18 fun K hK=>?_
      go_simp
      go_at_call 100;refine (zb0 _ _ _ _ _ E.o ai.o (uC (Yr N1.o N2.o) (by omega)) (uC (Yr N3.o N4.o) (by omega))).mono ?_;rintro e w3 ⟨v3,rfl,y,ad⟩;have ak:=ze y;clear y;clear E ai;replace B:=kb_ B ad;refine hK.out _ _ (zl (zo ad l.1) (Y _)) ?_;clear hK K l;intro l
      try simp only [Act.put,xST]
      clear ad;have D:=l.1.out;replace j:=ze (Pv.below j.o D);replace u:=ze (ZD.below u.o D);replace C:=ze (ZD.below C.o D);clear D;refine HH.done (by kernel_rfl) ?_;simp only [List.drop_succ_cons,List.drop_zero];clear HA aF aH aG N1 N2 N3 N4 a0 a1 a2 b0 b1 b2 q0 q1 q2 e0 e1 e2 tL mL aL bL pL fL t3 t4 l;have ba:=j.o.ge;obtain ⟨M,Q,U,V,G,rfl,_,_,_⟩:=ak.o.form;have r0:=B.o.cell 0;have r1:=B.o.cell 1;have r2:=B.o.cell 2;obtain ⟨z0,z1,z2⟩:=fq3 B;simp at r0 r1 r2;have aC:Hid (w.heap.size<=Z.heap.size):=by have:=ah.o;have:=bh.o;show _<=_;omega
      go_wp2;go_meet;have al:=B.o.noDig (Xq _ _ _ _ _);have n1:gp≠Z.heap.size:=by have:=a7.o;have:=ah.o;omega
      have n2:gf≠Z.heap.size:=by have:=a8.o;have:=ah.o;omega
      exact ⟨rfl,Z.heap.size,rfl,aC,zan B.o ak.o,j.o.box Z8 aC.o al,u.o.chg Z8 n1 (fun b e=>by subst e;exact al),C.o.chg Z8 n2 (fun b e=>by subst e;exact al)⟩
     case rest=>
      clear j u C HA aF aH aG N1 N2 N3 N4 a0 a1 a2 b0 b1 b2 q0 q1 q2 e0 e1 e2 tL mL aL bL pL fL t3 t4 a7 a8;obtain ⟨rfl,gx,rfl,ah,b8,j,u,C⟩:=hcut
      skip
      obtain ⟨xx,xA,xn,xc,xg,bd,bP⟩:=b8.o;obtain ⟨x0,x1,x2,_⟩:=bp3 bd;have xL:=bd.lt;have tL:=j.o.tab.lt;have d4:wc.cell? ⟨F.gt,4,none⟩=some (.int .i64 dx):=by rw [j.o.tab.cell, <- ae.o];rfl
      have d5:wc.cell? ⟨F.gt,5,none⟩=some (.slice dA dn dc):=by rw [j.o.tab.cell, <- ae.o];rfl
      have d6:wc.cell? ⟨F.gt,6,none⟩=some (.bool dg):=by rw [j.o.tab.cell, <- ae.o];rfl
      have bY:=ze bP;have bH:=ze (j.o.chg.num HD.o bE.o);have NX:=ze (zsm (Yr (HF.o.cell i k (by omega) ab) (HF.o.cell r c (by omega) hc)) (Yr (HF.o.cell i c (by omega) hc) (HF.o.cell r k (by omega) ab)));have ND:Hid (T.den≠0):=by have:=HF.o.den;show T.den≠0;omega
      clear bd bP
      go_upto_region 11 with fail
      have Y:∀ w',Hid (Below wc.heap.size wc w')->w'.cell? ⟨gx,0,none⟩=some (.int .i64 xx)/\w'.cell? ⟨gx,1,none⟩=some (.slice xA xn xc)/\w'.cell? ⟨gx,2,none⟩=some (.bool xg)/\w'.cell? ⟨F.gt,4,none⟩=some (.int .i64 dx)/\w'.cell? ⟨F.gt,5,none⟩=some (.slice dA dn dc)/\w'.cell? ⟨F.gt,6,none⟩=some (.bool dg):=fun w' hB=>⟨zk hB xL x0,zk hB xL x1,zk hB xL x2,zk hB tL d4,zk hB tL d5,zk hB tL d6⟩
      refine Y4 (S:=fun w' =>Hid (Below wc.heap.size wc w')/\w'.cell? ⟨gx,0,none⟩=some (.int .i64 xx)/\w'.cell? ⟨gx,1,none⟩=some (.slice xA xn xc)/\w'.cell? ⟨gx,2,none⟩=some (.bool xg)/\w'.cell? ⟨F.gt,4,none⟩=some (.int .i64 dx)/\w'.cell? ⟨F.gt,5,none⟩=some (.slice dA dn dc)/\w'.cell? ⟨F.gt,6,none⟩=some (.bool dg)) 10 12 7 5 12 rfl (by kernel_rfl) rfl rfl rfl (by kernel_rfl) (by kernel_rfl) (by kernel_rfl) rfl (zl (zw wc) (Y _)) ?_ ?_ fun l=>?_
      . intro _ _ _ _ _ h9;exact h9
      . intro _ _ _ _ h9;exact h9
      simp only [VX,zsh,List.take_succ_cons,List.take_zero]
      iterate 7 refine zP ?_
      refine zD ?_;refine rK 7 fun K hK=>?_
      go_simp
      go_at_call 99;refine (VB _ _ _ _ _ (bY.o.below l.1.out) (bH.o.below l.1.out) ND.out (uC NX.out (by omega)) (HF.o.fden.le (by omega))).mono ?_;rintro e w1 ⟨v,v',rfl,y,cp,z⟩;have E:=ze y;clear y cp;refine hK.out _ _ (zl (zo z l.1) (Y _)) ?_;clear hK K l;intro l
      try simp only [Act.put,xST]
      clear z;refine tK 8 ?_;refine tK 9 ?_;refine tK 10 ?_;refine tK 11 ?_;have D:=(l.1).out;replace j:=ze (Pv.below j.o D);replace u:=ze (ZD.below u.o D);replace C:=ze (ZD.below C.o D);clear D l Y;refine hdn ?_;simp only [xDR];clear bY bH NX ND x0 x1 x2 d4 d5 d6 xL tL b8 ah;obtain ⟨M,Q,U,V,G,rfl,_,_,_⟩:=E.o.form;obtain ⟨u0,u1,u2,s0,s1,s2⟩:=(j.o.mat.rows i O).2.slots ab;have z0:=(j.o.mat.rows i O).2.frozen (k*3);have z1:=(j.o.mat.rows i O).2.frozen (k*3+1);have z2:=(j.o.mat.rows i O).2.frozen (k*3+2);have I:Hid (Pv w base m L F cs (T.stA r c i (k+1)) (World.numAt w1 (F.g i) k M Q U V G)):=j.o.set (by omega) ab E.o (fun i' k' _ _=>T.stA_next r c i k bk.o bq.o i' k');have aq:=ze (j.o.keepBox (i:=i) (k:=k) (x:=M) (X:=Q) (n1:=U) (c:=V) (ng:=G) (by omega) u.o aN.o);have cr:=ze (j.o.keepBox (i:=i) (k:=k) (x:=M) (X:=Q) (n1:=U) (c:=V) (ng:=G) (by omega) C.o b4.o);clear j u C E;go_wp2;go_roundw
      case rel=>exact ⟨k+1,by omega,by go_num,I,aq,cr⟩
      case measure=>simp [intOf];omega
  obtain rfl:i=m+1:=by omega
  skip
  have t3:wr.cell? ⟨F.gt,3,none⟩=some (.slice (some ⟨F.gm,0,none⟩) (m+1) F.cm):=by rw [j.o.tab.cell, <- ae.o];rfl
  have t4:=j.o.mat.cell (i:=r) (by omega);have R:Hid (Pv w base m L F cs (T.stB r c 0) wr):=j.o.congr fun i' k' hi' _=>T.stB_start r c m i' k' hi'
  clear j;go_wp2
  go_loopw [98] (PivR w base m L F cs T r c gp) (fun kv _=>L - (intOf kv).toNat)
  case atStart=>exact ⟨0,uB,rfl,R,u⟩
  case round=>
   clear R u t3 t4;obtain ⟨k,hk,rfl,j,u⟩:=hrel
   by_cases ab:k<L
   . have bJ:(k:Int)<(L:Int):=by omega
     by_cases au:k=c
     rotate_left
     . have bp:((k:Int) != (c:Int))=true:=by rw [bne_iff_ne];omega
       have bq:=ze au;obtain ⟨ax,aA,an,ac,ag,a0,a1,a2,ha⟩:=j.o.mat.at_ (i:=r) (k:=k) (by omega) ab;rw [T.stB_here] at ha;clear au;go_wp2_with fail;refine (yK _ _ _ ha).mono ?_;rintro e w1 ⟨v,rfl,y,z⟩;replace j:=ze (j.o.below z);replace u:=ze (u.o.below z);clear ha a0 a1 a2 z;obtain ⟨M,Q,U,V,G,rfl,_,_,_⟩:=y.form;obtain ⟨u0,u1,u2,s0,s1,s2⟩:=(j.o.mat.rows r (by omega)).2.slots ab;have z0:=(j.o.mat.rows r (by omega)).2.frozen (k*3);have z1:=(j.o.mat.rows r (by omega)).2.frozen (k*3+1);have z2:=(j.o.mat.rows r (by omega)).2.frozen (k*3+2);have I:Hid (Pv w base m L F cs (T.stB r c (k+1)) (World.numAt w1 (F.g r) k M Q U V G)):=j.o.set (by omega) ab y (fun i' k' _ _=>T.stB_next r c k bq.o i' k');have aq:=ze (j.o.keepBox (i:=r) (k:=k) (x:=M) (X:=Q) (n1:=U) (c:=V) (ng:=G) (by omega) u.o aN.o);clear j u y;go_wp2;go_roundw
       case rel=>(repeat apply Exists.intro);exact ⟨⟨k+1,by omega,by go_num,I,aq⟩,rfl⟩
       case measure=>simp [intOf];omega
     have bp:((k:Int) != (c:Int))=false:=by rw [bne_eq_false_iff_eq];omega
     have R:Hid (Pv w base m L F cs (T.stB r c (k+1)) wr):=j.o.congr fun i' k' _ _=>by subst au;exact T.stB_col r k i' k'
     clear au j;go_wp2;go_round
     case rel=>exact ⟨k+1,by omega,by go_num,R,u⟩
     case measure=>simp [intOf];omega
   obtain rfl:L=k:=by omega
   skip
   have d4:wr.cell? ⟨F.gt,4,none⟩=some (.int .i64 dx):=by rw [j.o.tab.cell, <- ae.o];rfl
   have d5:wr.cell? ⟨F.gt,5,none⟩=some (.slice dA dn dc):=by rw [j.o.tab.cell, <- ae.o];rfl
   have d6:wr.cell? ⟨F.gt,6,none⟩=some (.bool dg):=by rw [j.o.tab.cell, <- ae.o];rfl
   have hdn:=j.o.chg.num HD.o bE.o;obtain ⟨u0,u1,u2,s0,s1,s2⟩:=(j.o.mat.rows r (by omega)).2.slots hc;have z0:=(j.o.mat.rows r (by omega)).2.frozen (c*3);have z1:=(j.o.mat.rows r (by omega)).2.frozen (c*3+1);have z2:=(j.o.mat.rows r (by omega)).2.frozen (c*3+2);have I:Hid (Pv w base m L F cs (T.bare r c) (World.numAt wr (F.g r) c dx dA dn dc dg)):=j.o.set (by omega) hc hdn (fun i' k' _ hk' =>T.stB_end r c L i' k' hk');have aq:=ze (j.o.keepBox (i:=r) (k:=c) (x:=dx) (X:=dA) (n1:=dn) (c:=dc) (ng:=dg) (by omega) u.o aN.o);clear j u hdn HD
   go_upto_region 23 with fail
   clear d4 d5 d6 u0 u1 u2 s0 s1 s2 z0 z1 z2;obtain ⟨W3,br⟩:∃ x,x=World.numAt wr (F.g r) c dx dA dn dc dg:=⟨_,rfl⟩;rw [<- br] at I aq;have bZ:((wr.setCell ⟨F.g r,c*3,none⟩ (.int .i64 dx)).setCell ⟨F.g r,c*3+1,none⟩ (.slice dA dn dc)).setCell ⟨F.g r,c*3+2,none⟩ (.bool dg)=W3:=br.symm;rw [bZ];clear bZ br;have bO:0<L - 1:=by omega
   obtain ⟨J,cb,eb,_,_⟩:=aZ.o.1.form (Nat.lt_of_le_of_lt (uB) hr);obtain ⟨N,co,eo,_,_⟩:=a3.o.1.form bO;have av:=ze (I.o.own aZ.o);have az:=ze (I.o.own a3.o);have t7:W3.cell? ⟨F.gt,7,none⟩=some (.slice (some ⟨J,0,none⟩) m cb):=by rw [I.o.tab.cell, <- ae.o, <- eb];rfl
   have t8:W3.cell? ⟨F.gt,8,none⟩=some (.slice (some ⟨N,0,none⟩) (L - 1) co):=by rw [I.o.tab.cell, <- ae.o, <- eo];rfl
   have bz:J≠N:=fun e=>bs.o J (by rw [eb];rfl) (by rw [eo,e];rfl)
   rw [eb] at av;rw [eo] at az;have b1:W3.cell? ⟨J,r,none⟩=some (.int .i64 (T.basic r:Nat)):=by rw [av.o.1.cellAt r (by omega)];exact vE hr
   have o1:W3.cell? ⟨N,c - 1,none⟩=some (.int .i64 (T.other (c - 1):Nat)):=by rw [az.o.1.cellAt (c - 1) (by omega)];exact vE (by omega)
   have z1:=av.o.1.frozenAt r;have z2:=az.o.1.frozenAt (c - 1);have cv:(c:Int) - 1<((L - 1:Nat):Int):=by omega
   have cy:(1:Int)<=(c:Int):=by omega
   have cq:((c:Int) - 1).toNat=c - 1:=by omega
   have cd:(r:Int)<(m:Int):=by omega
   clear ci ce
   go_region
   generalize a4:((W3.setCell ⟨J,r,none⟩ (.int .i64 (T.other (c - 1):Nat))).setCell ⟨N,c - 1,none⟩ (.int .i64 (T.basic r:Nat))).drew=W4
   have aX:Hid (Chg (fun b=>b=J\/b=N) W3 W4):=by
    rw [<- a4];exact Chg.trans (Chg.setCell (S:=fun b=>b=J\/b=N) (Chg.setCell (S:=fun b=>b=J\/b=N) (Chg.refl W3) (p:=⟨J,r,none⟩) (.inl rfl) _) (p:=⟨N,c - 1,none⟩) (.inr rfl) _) (Chg.of_below (S:=fun b=>b=J\/b=N) (zw _).out) (fun b _ h=>h)
   have bu:Hid (vJ W4 base 3 1 F.bv m (yP m (T.pivot r c).basic)):=by
    have h1:=av.o.stored r (x8 (T.other (c - 1):Nat));rw [VT] at h1
    have h2:=h1.chg (Chg.setCell (S:=fun b=>b=N) (Chg.refl _) (p:=⟨N,c - 1,none⟩) rfl (.int .i64 (T.basic r:Nat))) (fun b hb e=>bz (by
     have:J=b:=by simpa [Value.ownBlock] using hb
     rw [this];exact e))
    have h3:=h2.below (zw _).out;rw [a4, <- eb] at h3;exact h3
   have bj:Hid (vJ W4 base 3 1 F.ov (L - 1) (yP (L - 1) (T.pivot r c).other)):=by
    have h1:=az.o.chg (Chg.setCell (S:=fun b=>b=J) (Chg.refl _) (p:=⟨J,r,none⟩) rfl (.int .i64 (T.other (c - 1):Nat))) (fun b hb e=>bz (by
     have:N=b:=by simpa [Value.ownBlock] using hb
     rw [this];exact e.symm))
    have h2:=h1.stored (c - 1) (x8 (T.basic r:Nat));rw [VT] at h2;have h3:=h2.below (zw _).out;rw [a4, <- eo] at h3;exact h3
   have bF:Hid (J<w.heap.size):=(aZ.o.1.lt J (by rw [eb];rfl)).2;have bK:Hid (N<w.heap.size):=(a3.o.1.lt N (by rw [eo];rfl)).2
   have hS:∀ b,(b=J\/b=N)->zK W3 b:=fun b h=>by
    rcases h with rfl | rfl
    . exact av.o.2 _ rfl
    . exact az.o.2 _ rfl
   have bW:∀ b,(b=J\/b=N)->∀ i,i<=m->b≠F.g i:=fun b h i hi e=>by
    obtain ⟨bi,k1⟩:=(I.o.mat.rows i (by omega)).2.heap
    rcases h with rfl | rfl
    . obtain ⟨aJ,k2⟩:=av.o.heap (b:=b) rfl
      exact yZ k1 k2 (by decide) e.symm
    . obtain ⟨aJ,k2⟩:=az.o.heap (b:=b) rfl
      exact yZ k1 k2 (by decide) e.symm
   have bV:¬ (F.gm=J\/F.gm=N):=fun h=>by
    obtain ⟨bi,k1⟩:=I.o.mat.own.heap (b:=F.gm) rfl
    rcases h with h | h
    . obtain ⟨aJ,k2⟩:=av.o.heap (b:=J) rfl
      rw [h] at k1;rw [k1] at k2;injection k2 with k2;injection k2 with _ k3 _;exact absurd k3 (by decide)
    . obtain ⟨aJ,k2⟩:=az.o.heap (b:=N) rfl
      rw [h] at k1;rw [k1] at k2;injection k2 with k2;injection k2 with _ k3 _;exact absurd k3 (by decide)
   have bX:¬ (F.gt=J\/F.gt=N):=fun h=>by
    rcases h with h | h
    . obtain ⟨aJ,k2⟩:=av.o.heap (b:=J) rfl
      exact yZ I.o.tab k2 (by decide) h
    . obtain ⟨aJ,k2⟩:=az.o.heap (b:=N) rfl
      exact yZ I.o.tab k2 (by decide) h
   have aO:=ze (I.o.anew aX.o bW bV hS (aX.o.blk I.o.tab bX));have bf:=ze (aq.o.chg aX.o (fun h=>by have:=bF.o;have:=bK.o;have:=aN.o;omega) hS)
   have bI:Hid (Chg (F.S m) w W4):=Chg.trans (I.o.chg.mono (T:=F.S m) (fun b _ h=>.inr (.inl h))) aX.o (fun b _ h=>by
    rcases h with rfl | rfl
    . exact .inr (.inr (.inl (by rw [eb];rfl)))
    . exact .inr (.inr (.inr (by rw [eo];rfl))))
   clear a4 aX av az I aq hS bW bV bX t7 t8 bz b1 o1 z1 z2 cv cq cd bO aZ a3 bF bK
   skip
   obtain ⟨qx,qA,qn,qc,qg,am,ap⟩:=bf.o;obtain ⟨q0,q1,q2,_⟩:=bp3 am;have aj:Blk W4 F.gt 136 (F.cells m dx dA dn dc dg):=by rw [ae.o];exact aO.o.tab
   have d4:W4.cell? ⟨F.gt,4,none⟩=some (.int .i64 dx):=by rw [aj.cell];rfl
   have d5:W4.cell? ⟨F.gt,5,none⟩=some (.slice dA dn dc):=by rw [aj.cell];rfl
   have d6:W4.cell? ⟨F.gt,6,none⟩=some (.bool dg):=by rw [aj.cell];rfl
   have z4:=aj.frozen 4;have z5:=aj.frozen 5;have z6:=aj.frozen 6;have b5:zK W4 F.gt:=aj.noDig (zd6 (xo bu.o) (xo bj.o))
   have bR:gp≠F.gt:=fun e=>by
    have:=aO.o.oldt;exact yZ am aj (by decide) e
   obtain ⟨W5,a9⟩:∃ x,x=((W4.setCell ⟨F.gt,4,none⟩ (.int .i64 qx)).setCell ⟨F.gt,5,none⟩ (.slice qA qn qc)).setCell ⟨F.gt,6,none⟩ (.bool qg):=⟨_,rfl⟩;have aS:Chg (· =F.gt) W4 W5:=by rw [a9];exact znk
   have aB:∀ b,b=F.gt->zK W4 b:=fun b e=>by subst e;exact b5
   have bb:Blk W5 F.gt 136 (F.cells m qx qA qn qc qg):=by rw [a9];exact zmx aj
   have ao:=ze (aO.o.anew aS (fun b e i hi e2=>by subst e;exact aO.o.ntab hi e2) (fun e=>by
    obtain ⟨bi,k1⟩:=aO.o.mat.own.heap (b:=F.gm) rfl
    exact yZ aj k1 (by decide) e.symm) aB bb)
   have aP:=ze (bf.o.chg aS bR aB)
   have aI:∀ v n xs,vJ W4 base 3 1 v n xs->vJ W5 base 3 1 v n xs:=fun v n xs h=>h.chg aS (fun b hb e=>by
    obtain ⟨aJ,k2⟩:=h.heap hb
    exact yZ aj k2 (by decide) e.symm)
   have ay:=ze (aI _ _ _ bu.o);have ar:=ze (aI _ _ _ bj.o);have aE:Hid (Chg (F.S m) w W5):=Chg.trans bI.o aS (fun b _ e=>.inl e);have aa:=ze bb;have bm:=ze (aS.num ap aB);clear bu bj aO bf bI aj b5 aB aI aS bb am ap
   go_upto_region 25 with fail
   rw [<- a9];clear a9 q0 q1 q2 d4 d5 d6 z4 z5 z6 bR;obtain ⟨cB,cA,cC,cx,cw,am,ap⟩:=aP.o;obtain ⟨q0,q1,q2,_⟩:=bp3 am;have HQ:=ze ap
   skip
   have aM:=fun w' (h:Below W5.heap.size W5 w')=>YH _ _ w' (ap.below h)
   by_cases aK:T.cell r c<0
   rotate_left
   . obtain ⟨G,bT,cz⟩:∃ G:Int,yj (T.cell r c) 0=G/\¬ G<0:=by
      unfold yj;rw [if_neg aK]
      split
      . exact ⟨1,rfl,by omega⟩
      exact ⟨0,rfl,by omega⟩
     rw [bT] at aM;have aY:=zlp (T:=T) (r:=r) (c:=c) aK;have aW:=ze aY;clear ap aK bT aY;go_wp2_with fail;refine (aM _ (vG _)).mono ?_;rintro e w1 ⟨rfl,z⟩;clear aM q0 q1 q2 am;have cc:=ze (ao.o.below z);have cg:=ze (ay.o.below z);have cl:=ze (ar.o.below z);have ch:=ze (bm.o.below z);have cf:Hid (Chg (F.S m) w w1):=Chg.trans aE.o (Chg.of_below (S:=F.S m) z) (fun _ _ h=>h);clear z ao aP ay ar aa HQ aE bm;go_wp2
     go_end0
     refine ⟨rfl,zX.of_pv cc.o ?_ (fun i k _ _=>aW.o.2 i k) cg.o cl.o bs.o bQ.o bM.o,cf.o⟩;rw [aW.o.1];exact ch.o
   have e:yj (T.cell r c) 0= -1:=by unfold yj;rw [if_pos aK]
   rw [e] at aM;have aY:=zna (T:=T) (r:=r) (c:=c) aK;have aW:=ze aY;clear ap aK e aY;go_wp2_with fail;refine (aM _ (vG _)).mono ?_;rintro e w1 ⟨rfl,z⟩;clear aM q0 q1 q2 am;replace ao:=ze (ao.o.below z);replace aP:=ze (aP.o.below z);replace ay:=ze (ay.o.below z);replace ar:=ze (ar.o.below z);replace aa:=kb_ aa z;replace HQ:=ze (HQ.o.below z);replace aE:Hid (Chg (F.S m) w w1):=Chg.trans aE.o (Chg.of_below (S:=F.S m) z) (fun _ _ h=>h);clear z bm;obtain ⟨qx,qA,qn,qc,qg,am,ap⟩:=aP.o;obtain ⟨q0,q1,q2,_⟩:=bp3 am;clear HQ am;go_wp2_with fail;refine (yK _ _ _ ap).mono ?_;rintro e Z ⟨v,rfl,y,z⟩;replace ao:=ze (ao.o.below z);replace ay:=ze (ay.o.below z);replace ar:=ze (ar.o.below z);replace aa:=kb_ aa z;replace aE:Hid (Chg (F.S m) w Z):=Chg.trans aE.o (Chg.of_below (S:=F.S m) z) (fun _ _ h=>h);clear q0 q1 q2 ap z aP;obtain ⟨M,Q,U,V,G,rfl,_,_,_⟩:=y.form;have z4:=aa.o.frozen 4;have z5:=aa.o.frozen 5
   have z6:=aa.o.frozen 6;have d4:=aa.o.cell 4;have d5:=aa.o.cell 5;have d6:=aa.o.cell 6
   simp [zN.cells] at d4 d5 d6
   obtain ⟨W7,a6⟩:∃ x,x=((Z.setCell ⟨F.gt,4,none⟩ (.int .i64 M)).setCell ⟨F.gt,5,none⟩ (.slice Q U V)).setCell ⟨F.gt,6,none⟩ (.bool G):=⟨_,rfl⟩;have aV:Chg (· =F.gt) Z W7:=by rw [a6];exact znk
   have b7:zK Z F.gt:=aa.o.noDig (zd6 (xo ay.o) (xo ar.o));have aB:∀ b,b=F.gt->zK Z b:=fun b e=>by subst e;exact b7
   have b6:Blk W7 F.gt 136 (F.cells m M Q U V G):=by rw [a6];exact zmx aa.o
   have aU:=ze (ao.o.anew aV (fun b e i hi e2=>by subst e;exact ao.o.ntab hi e2) (fun e=>by
    obtain ⟨bi,k1⟩:=ao.o.mat.own.heap (b:=F.gm) rfl
    exact yZ aa.o k1 (by decide) e.symm) aB b6)
   have aI:∀ v n xs,vJ Z base 3 1 v n xs->vJ W7 base 3 1 v n xs:=fun v n xs h=>h.chg aV (fun b hb e=>by
    obtain ⟨aJ,k2⟩:=h.heap hb
    exact yZ aa.o k2 (by decide) e.symm)
   have cn:=ze (aI _ _ _ ay.o);have cj:=ze (aI _ _ _ ar.o);have ca:Hid (Chg (F.S m) w W7):=Chg.trans aE.o aV (fun b _ e=>.inl e);have ck:=ze (aV.num y aB);have cu:Hid (∀ b,F.rows m b->zK W7 b):=fun b ⟨i,hi,e⟩=>by subst e;exact aU.o.noDig hi
   clear ay ar ao aE b7 aB aI aV b6 y aa
   go_upto_region 27 with fail
   rw [<- a6];clear a6 d4 d5 d6 z4 z5 z6;obtain ⟨aR,bo⟩:∃ aR,Hid (F.cells m M Q U V G=aR):=⟨_,rfl⟩;rw [bo.o] at aU;have t3:W7.cell? ⟨F.gt,3,none⟩=some (.slice (some ⟨F.gm,0,none⟩) (m+1) F.cm):=by rw [aU.o.tab.cell, <- bo.o];rfl
   go_wp2
   go_loopw [165] (PivD W7 base m L F aR (T.bare r c)) (fun iv _=>m+1 - (intOf iv).toNat)
   case atStart=>exact ⟨0,uB,rfl,aU.o.congr fun i k _ _=>zm3 _ i k⟩
   case round=>
    clear aU t3;obtain ⟨i,hi,rfl,j⟩:=hrel
    by_cases O:i<m+1
    rotate_left
    . obtain rfl:i=m+1:=by omega
      go_wp2
      go_end0
      refine ⟨rfl,zX.of_pv (w0:=W7) (A:=fun i k=> -(T.bare r c i k)) (x:=M) (X:=Q) (n:=U) (c:=V) (ng:=G) ?_ ?_ ?_ (j.o.own cn.o) (j.o.own cj.o) bs.o bQ.o bM.o,ca.o.trans (j.o.chg.mono (T:=F.S m) (fun b _ h=>.inr (.inl h))) (fun _ _ h=>h)⟩
      . rw [bo.o];exact j.o.congr fun i' k' hi' _=>(zse _ m i' k' hi').symm
      . rw [aW.o.1];exact j.o.chg.num ck.o cu.o
      . exact fun i k _ _=>aW.o.2 i k
    have ct:(i:Int)<(m:Int)+1:=by omega
    have t4:=j.o.mat.cell (i:=i) O;go_wp2
    go_loopw [171] (PivE W7 base m L F aR (T.bare r c) i) (fun kv _=>L - (intOf kv).toNat)
    case atStart=>exact ⟨0,uB,rfl,j⟩
    case round=>
     clear j t4;obtain ⟨k,hk,rfl,j⟩:=hrel
     by_cases ab:k<L
     . have bJ:(k:Int)<(L:Int):=by omega
       obtain ⟨ax,aA,an,ac,ag,a0,a1,a2,ha⟩:=j.o.mat.at_ (i:=i) (k:=k) O ab;rw [zpm] at ha;go_wp2_with fail;refine (yK _ _ _ ha).mono ?_;rintro e w3 ⟨v,rfl,y,z⟩;replace j:=ze (j.o.below z);clear ha a0 a1 a2 z;obtain ⟨M,Q,U,V,G,rfl,_,_,_⟩:=y.form;obtain ⟨u0,u1,u2,s0,s1,s2⟩:=(j.o.mat.rows i O).2.slots ab;have z0:=(j.o.mat.rows i O).2.frozen (k*3);have z1:=(j.o.mat.rows i O).2.frozen (k*3+1);have z2:=(j.o.mat.rows i O).2.frozen (k*3+2);have I:Hid (Pv W7 base m L F aR (stD (T.bare r c) i (k+1)) (World.numAt w3 (F.g i) k M Q U V G)):=j.o.set (by omega) ab y (fun i' k' _ _=>zps _ i k i' k');clear j y;go_wp2;go_roundw
       case rel=>first | exact ⟨k+1,by omega,by go_num,I⟩ | ((repeat apply Exists.intro);exact ⟨⟨k+1,by omega,by go_num,I⟩,rfl⟩)
       case measure=>simp [intOf];omega
     obtain rfl:L=k:=by omega
     have R:Hid (Pv W7 base m L F aR (stD (T.bare r c) (i+1) 0) wr):=j.o.congr fun i' k' _ hk' =>zsx _ i L i' k' hk'
     clear j;go_wp2;go_round
     case rel=>exact ⟨i+1,by omega,by go_num,R⟩
     case measure=>simp [intOf];omega
end Go.Proofs.YtofmkndhocinmaaGreatDoor
