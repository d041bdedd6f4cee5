/- Parts of the proof. -/
import Derived.Deep.CutRange
import Derived.Test.YtnjljgidphemdaaGreatDoorMv15
import Derived.Test.YtnjljgidphemdaaGreatDoorMv17
set_option linter.all false
namespace Go.Proofs.YtnjljgidphemdaaGreatDoor
open Proofs.Tryz Go.RowKit Go.Deep
attribute [local go_sem ↓] Go.wp_at_zero Go.wp_at_succ
theorem Fit.le {z:Int} (h:Fit z) {M:Nat} (hM:8388608<=M):len 4294967296 z.natAbs<=M:=uC h hM
theorem YV {a b:Int} (ha:Fit a) (hb:Fit b):len 4294967296 (a*b).natAbs<=16777216:=Yg (M:=8388608) (K:=8388608) ha hb
theorem zwh {a b:Int} {M:Nat} (ha:len 4294967296 a.natAbs<=M) (hb:len 4294967296 b.natAbs<=M):len 4294967296 (a - b).natAbs<=M+1:=by
 rw [Int.sub_eq_add_neg]
 exact zmr ha (by rw [Int.natAbs_neg];exact hb)
def PivA (w0:World) (base m L:Nat) (F:zZ) (cs:Array Value) (T:yE) (r c gp:Nat) (iv:Value) (wr:World):Prop:=
 ∃ i:Nat,i<=m+1/\iv= .int .i64 i/\Hid (Pv w0 base m L F cs (T.stA r c i 0) wr)/\Hid (Yb wr gp (T.cell r c))
def PivB (w0:World) (base m L:Nat) (F:zZ) (cs:Array Value) (T:yE) (r c gp i gf:Nat) (kv:Value) (wr:World):Prop:=
 ∃ k:Nat,k<=L/\kv= .int .i64 k/\Hid (Pv w0 base m L F cs (T.stA r c i k) wr)/\Hid (Yb wr gp (T.cell r c))/\Hid (Yb wr gf (T.cell i c))
def PivR (w0:World) (base m L:Nat) (F:zZ) (cs:Array Value) (T:yE) (r c gp:Nat) (kv:Value) (wr:World):Prop:=
 ∃ k:Nat,k<=L/\kv= .int .i64 k/\Hid (Pv w0 base m L F cs (T.stB r c k) wr)/\Hid (Yb wr gp (T.cell r c))
def PivD (w0:World) (base m L:Nat) (F:zZ) (cs:Array Value) (A:Nat->Nat->Int) (iv:Value) (wr:World):Prop:=∃ i:Nat,i<=m+1/\iv= .int .i64 i/\Hid (Pv w0 base m L F cs (stD A i 0) wr)
def PivE (w0:World) (base m L:Nat) (F:zZ) (cs:Array Value) (A:Nat->Nat->Int) (i:Nat) (kv:Value) (wr:World):Prop:=∃ k:Nat,k<=L/\kv= .int .i64 k/\Hid (Pv w0 base m L F cs (stD A i k) wr)
theorem zpd {T:yE} {r c:Nat} (h:¬ T.cell r c<0):(T.pivot r c).den=T.cell r c/\∀ i k,(T.pivot r c).cell i k=T.bare r c i k:=by
 unfold yE.pivot
 exact ⟨by simp only [if_neg h],fun i k=>by simp only [if_neg h]⟩
theorem zq0 {T:yE} {r c:Nat} (h:T.cell r c<0):(T.pivot r c).den= -(T.cell r c)/\∀ i k,(T.pivot r c).cell i k= -(T.bare r c i k):=by
 unfold yE.pivot
 exact ⟨by simp only [if_pos h],fun i k=>by simp only [if_pos h]⟩
def zxs (base m L:Nat) (F:zZ) (T:yE) (w:World) (e:Ending) (w' :World):Prop:=e= .returned (.tuple #[])/\yg base m L F w' T/\Chg (F.S m) w w'
set_option maxRecDepth 100000 in
set_option maxHeartbeats 8000000 in
theorem zks (base m L:Nat) (F:zZ) (T:yE) (r c:Nat) (w:World) (hT:yg base m L F w T) (hf:T.Fits m L) (hr:r<m) (hc0:0<c) (hc:c<L) (hm:m<=100000) (hL:L<=100000) (hb:base<=w.heap.size):
 Calls prog 142 #[.pointer (some ⟨F.gt,0,none⟩),.int .i64 r,.int .i64 c] w (zxs base m L F (T.pivot r c) w):=by
 obtain ⟨⟨dx,dA,dn,dc,dg,bk,bZ⟩,aT,bC,bM,bB,bF,bR⟩:=hT
 have j:Hid (Pv w base m L F (F.cells m dx dA dn dc dg) T.cell w):=⟨aT,bk,Chg.refl w,fun i hi=>⟨(aT.rows i (by omega)).2.lt,(aT.rows i (by omega)).2.heap⟩,bk.lt,aT.lt.2,hb⟩
 obtain ⟨HD,aZ,a3,br,bP,bK,HF,HB⟩:=hz8 bZ bC bM bB bF bR hf hb
 have bD:Hid (∀ b,F.rows m b->ye w b):=fun b ⟨i,hi,e⟩=>by subst e;exact j.o.noDig hi
 clear bk bZ aT bC bM bB bF bR hf hb
 obtain ⟨cs,ae⟩:∃ cs,Hid (F.cells m dx dA dn dc dg=cs):=⟨_,rfl⟩
 rw [ae.o] at j
 have t3:w.cell? ⟨F.gt,3,none⟩=some (.slice (some ⟨F.gm,0,none⟩) (m+1) F.cm):=by rw [j.o.tab.cell, <- ae.o];rfl
 have t4:=j.o.mat.cell (i:=r) (by omega)
 obtain ⟨px,pA,pn,pc,pg,p0,p1,p2,hp⟩:=j.o.mat.at_ (i:=r) (k:=c) (by omega) hc
 have cd:(r:Int)<(m:Int)+1:=by omega
 have ch:(c:Int)<(L:Int):=by omega
 have hx:=zf w (.cells #[.int .i64 px,.slice pA pn pc,.bool pg] 68)
 have u:Hid (Yb (w.alloc (.cells #[.int .i64 px,.slice pA pn pc,.bool pg] 68)) w.heap.size (T.cell r c)):=⟨px,pA,pn,pc,pg,Blk.new _ _ _,hp.below hx⟩
 have U:=ze (j.o.below hx)
 clear hp j hx
 go_in
 go_upto_region 1 with fail
 clear t3 t4 p0 p1 p2
 generalize w.alloc (.cells #[.int .i64 px,.slice pA pn pc,.bool pg] 68)=W1 at u U |-
 have aN:=ze (Nat.le_refl w.heap.size)
 generalize bT:w.heap.size=gp at u |-
 have aN:Hid (w.heap.size<=gp):=ze (Nat.le_of_eq bT)
 clear bT
 have t3:W1.cell? ⟨F.gt,3,none⟩=some (.slice (some ⟨F.gm,0,none⟩) (m+1) F.cm):=by rw [U.o.tab.cell, <- ae.o];rfl
 go_wp2
 go_loopw [32] (PivA w base m L F cs T r c gp) (fun iv _=>m+1 - (intOf iv).toNat)
 case atStart=>exact ⟨0,uB,rfl,U.o.congr fun i k _ _=>T.stA_start r c i k,u⟩
 case round=>
  clear U u t3
  obtain ⟨i,hi,rfl,j,u⟩:=hrel
  by_cases Q:i<m+1
  . have cr:(i:Int)<(m:Int)+1:=by omega
    have t4:=j.o.mat.cell (i:=i) Q
    by_cases a5:i=r
    . have hd:((i:Int) == (r:Int))=true:=by rw [beq_iff_eq];omega
      have U:Hid (Pv w base m L F cs (T.stA r c (i+1) 0) wr):=j.o.congr fun i' k' _ _=>by subst a5;exact T.stA_skip i c i' k'
      clear a5 j;go_wp2;go_round
      case rel=>exact ⟨i+1,by omega,by go_num,U,u⟩
      case measure=>simp [intOf];omega
    have hd:((i:Int) == (r:Int))=false:=by rw [beq_eq_false_iff_ne];omega
    have bj:=ze a5;obtain ⟨fx,fA,fn,fc,fg,f0,f1,f2,aw⟩:=j.o.mat.at_ (i:=i) (k:=c) Q hc;rw [T.stA_col0] at aw;have hx:=zf wr (.cells #[.int .i64 fx,.slice fA fn fc,.bool fg] 68);have C:Hid (Yb (wr.alloc (.cells #[.int .i64 fx,.slice fA fn fc,.bool fg] 68)) wr.heap.size (T.cell i c)):=⟨fx,fA,fn,fc,fg,Blk.new _ _ _,aw.below hx⟩;have U:=ze (j.o.below hx);have bu:=ze (u.o.below hx);have b3:=ze j.o.ge;clear aw j u hx a5
    go_upto_region 6 with fail
    clear f0 f1 f2;generalize wr.alloc (.cells #[.int .i64 fx,.slice fA fn fc,.bool fg] 68)=W2 at C U bu |-;generalize wr.heap.size=gf at C b3 |-;clear t4;go_wp2
    go_loopw [46] (PivB w base m L F cs T r c gp i gf) (fun kv _=>L - (intOf kv).toNat)
    case atStart=>exact ⟨0,uB,rfl,U,bu,C⟩
    case round=>
     clear U bu C;obtain ⟨k,hk,rfl,j,u,C⟩:=hrel
     by_cases ab:k<L
     rotate_left
     . obtain rfl:k=L:=by omega
       skip
       have t4:=j.o.mat.cell (i:=i) Q;obtain ⟨u0,u1,u2,s0,s1,s2⟩:=(j.o.mat.rows i Q).2.slots hc;have f0:=(j.o.mat.rows i Q).2.frozen (c*3);have f1:=(j.o.mat.rows i Q).2.frozen (c*3+1);have f2:=(j.o.mat.rows i Q).2.frozen (c*3+2);obtain ⟨fx,fA,fn,fc,fg,aQ,aw⟩:=C.o;obtain ⟨e0,e1,e2,_⟩:=bp3 aQ;have J:Hid (Pv w base m k F cs (T.stA r c (i+1) 0) (World.numAt wr (F.g i) c fx fA fn fc fg)):=j.o.set (by omega) hc aw fun i' k' _ hk' =>T.stA_end r c i k bj.o i' k' hk'
       have aq:=ze (j.o.keepBox (i:=i) (k:=c) (x:=fx) (X:=fA) (n1:=fn) (c:=fc) (ng:=fg) (by omega) u.o aN.o);clear aQ aw j u C;go_wp2;go_round
       case rel=>exact ⟨i+1,by omega,by go_num,J,aq⟩
       case measure=>simp [intOf];omega
     have bI:(k:Int)<(L:Int):=by omega
     by_cases au:k=c
     . have bo:((k:Int) == (c:Int))=true:=by rw [beq_iff_eq];omega
       have U:Hid (Pv w base m L F cs (T.stA r c i (k+1)) wr):=j.o.congr fun i' k' _ _=>by subst au;exact T.stA_col r k i bj.o i' k'
       clear au j;go_wp2;go_round
       case rel=>exact ⟨k+1,by omega,by go_num,U,u,C⟩
       case measure=>simp [intOf];omega
     have bo:((k:Int) == (c:Int))=false:=by rw [beq_eq_false_iff_ne];omega
     have bp:=ze au;clear au;have t3:wr.cell? ⟨F.gt,3,none⟩=some (.slice (some ⟨F.gm,0,none⟩) (m+1) F.cm):=by rw [j.o.tab.cell, <- ae.o];rfl
     have t4:=j.o.mat.cell (i:=r) (by omega);obtain ⟨ax,aA,an,ac,ag,a0,a1,a2,ha⟩:=j.o.mat.at_ (i:=i) (k:=k) Q ab;rw [T.stA_here] at ha;obtain ⟨bx,bA,bn,bc,bg,b0,b1,b2,bz⟩:=j.o.mat.at_ (i:=r) (k:=k) (by omega) ab;rw [T.stA_row] at bz;obtain ⟨px,pA,pn,pc,pg,I,b8⟩:=u.o;obtain ⟨fx,fA,fn,fc,fg,aQ,aw⟩:=C.o;obtain ⟨q0,q1,q2,_⟩:=bp3 I;obtain ⟨e0,e1,e2,_⟩:=bp3 aQ;have tL:=j.o.tab.lt;have mL:=j.o.mat.lt.2;have aL:=(j.o.mat.rows i Q).2.lt;have bL:=(j.o.mat.rows r (by omega)).2.lt;have pL:=I.lt;have fL:=aQ.lt;obtain ⟨a7,a8,HA,aF,aH,aG⟩:=hz6 pL fL ha bz b8 aw;have N1:=ze (HF.o.cell i k (by omega) ab);have N2:=ze (HF.o.cell r c (by omega) hc);have N3:=ze (HF.o.cell i c (by omega) hc);have N4:=ze (HF.o.cell r k (by omega) ab);clear ha bz I b8 aQ aw
     go_upto_region 10 with fail
     go_cut [11,46] from 46 to 83 (fun N si wc=>si= .int .i64 k/\∃ gx,N= .pointer (some ⟨gx,0,none⟩)/\Hid (w.heap.size<=gx)/\Hid (Yb wc gx (T.cell i k*T.cell r c - T.cell i c*T.cell r k))/\Hid (Pv w base m L F cs (T.stA r c i k) wc)/\Hid (Yb wc gp (T.cell r c))/\Hid (Yb wc gf (T.cell i c)))
     case first=>
      skip
      have I:∀ w',Hid (Below wr.heap.size wr w')->w'.cell? ⟨F.gt,3,none⟩=some (.slice (some ⟨F.gm,0,none⟩) (m+1) F.cm)/\w'.cell? ⟨F.gm,r,none⟩=some (.slice (some ⟨F.g r,0,none⟩) L L)/\w'.cell? ⟨F.g i,k*3,none⟩=some (.int .i64 ax)/\w'.cell? ⟨F.g i,k*3+1,none⟩=some (.slice aA an ac)/\w'.cell? ⟨F.g i,k*3+2,none⟩=some (.bool ag)/\w'.cell? ⟨F.g r,k*3,none⟩=some (.int .i64 bx)/\w'.cell? ⟨F.g r,k*3+1,none⟩=some (.slice bA bn bc)/\w'.cell? ⟨F.g r,k*3+2,none⟩=some (.bool bg)/\w'.cell? ⟨gp,0,none⟩=some (.int .i64 px)/\w'.cell? ⟨gp,1,none⟩=some (.slice pA pn pc)/\w'.cell? ⟨gp,2,none⟩=some (.bool pg)/\w'.cell? ⟨gf,0,none⟩=some (.int .i64 fx)/\w'.cell? ⟨gf,1,none⟩=some (.slice fA fn fc)/\w'.cell? ⟨gf,2,none⟩=some (.bool fg):=fun w' hB=>⟨zq hB tL t3,zq hB mL t4,zq hB aL a0,zq hB aL a1,zq hB aL a2,zq hB bL b0,zq hB bL b1,zq hB bL b2,zq hB pL q0,zq hB pL q1,zq hB pL q2,zq hB fL e0,zq hB fL e1,zq hB fL e2⟩
      refine xz I 5 15 20 (zt wr) fun l=>?_;simp only [xDR]
      iterate 5 refine yd ?_
      refine zQ ?_;refine tK 6 ?_;refine tK 7 ?_;refine tK 8 ?_;refine tK 9 ?_;refine tK 10 ?_;refine tK 11 ?_;refine tK 12 ?_;refine tK 13 ?_;refine tK 14 ?_;refine tK 15 ?_;refine tK 16 ?_;have bf:=ze j.o.ge;refine HH.ready (rs:=[5,19]) (by kernel_rfl) (by simp) (by kernel_rfl) ?_;refine yY.cons (o:=_) rfl (fun K hK=>?_) (yY.cons (o:=_) rfl (fun K hK=>?_) yY.nil)
      rotate_left
      . skip
        go_simp
        have B:Hid (Blk _ wr.heap.size 68 #[.int .i64 0,.slice none 0 0,.bool false]):=(Blk.new wr 68 #[.int .i64 0,.slice none 0 0,.bool false]).drew;have ah:Hid (wr.heap.size<=wr.heap.size):=uA;refine hK.out _ _ (zo (yU wr _) (I _)) ?_;clear hK K l;intro l
        try simp only [Act.put,xST]
        refine rK 5 fun K hK=>?_
        go_simp
        go_at_call 72;refine (xY _ _ _ _ _ (HA.o.below l.1.out) (aH.o.below l.1.out) (N1.o.le (by omega)) (N2.o.le (by omega))).mono ?_;rintro e Z ⟨v1,rfl,y,z⟩;have E:=ze y;clear y;replace B:=kb_ B z;refine hK.out _ _ (zo (zp z l.1) (I _)) ?_;clear hK K l;intro l
        try simp only [Act.put,xST]
        clear z;refine rK 17 fun K hK=>?_
        go_simp
        go_at_call 72;refine (xY _ _ _ _ _ (aG.o.below l.1.out) (aF.o.below l.1.out) (N3.o.le (by omega)) (N4.o.le (by omega))).mono ?_;rintro e w2 ⟨v2,rfl,y,af⟩;replace E:=ze (E.o.below af);have ai:=ze y;clear y;replace B:=kb_ B af;refine hK.out _ _ (zo (zp af l.1) (I _)) ?_;clear hK K l;intro l
        try simp only [Act.put,xST]
        clear af;refine rK 18 fun K hK=>?_
        go_simp
        go_at_call 119;refine (zef _ _ _ _ _ E.o ai.o (uC (YV N1.o N2.o) (by omega)) (uC (YV N3.o N4.o) (by omega))).mono ?_;rintro e w3 ⟨v3,rfl,y,ad⟩;have ak:=ze y;clear y;clear E ai;replace B:=kb_ B ad;refine hK.out _ _ (zo (zp ad l.1) (I _)) ?_;clear hK K l;intro l
        try simp only [Act.put,xST]
        clear ad;have D:=l.1.out;replace j:=ze (Pv.below j.o D);replace u:=ze (Yb.below u.o D);replace C:=ze (Yb.below C.o D);clear D;refine HH.done (by kernel_rfl) ?_;simp only [List.drop_succ_cons,List.drop_zero];clear HA aF aH aG N1 N2 N3 N4 a0 a1 a2 b0 b1 b2 q0 q1 q2 e0 e1 e2 tL mL aL bL pL fL t3 t4 l;have ba:=j.o.ge;obtain ⟨N,R,V,Y,G,rfl,_,_,_⟩:=ak.o.form;have r0:=B.o.cell 0;have r1:=B.o.cell 1;have r2:=B.o.cell 2;obtain ⟨z0,z1,z2⟩:=fq3 B;simp at r0 r1 r2;have aC:Hid (w.heap.size<=wr.heap.size):=by have:=ah.o;have:=bf.o;show _<=_;omega
        go_wp2;go_meet;have al:=B.o.noDig (V6 _ _ _ _ _);have n1:gp≠wr.heap.size:=by have:=a7.o;have:=ah.o;omega
        have n2:gf≠wr.heap.size:=by have:=a8.o;have:=ah.o;omega
        exact ⟨rfl,wr.heap.size,rfl,aC,zc0 B.o ak.o,j.o.box ZX aC.o al,u.o.chg ZX n1 (fun b e=>by subst e;exact al),C.o.chg ZX n2 (fun b e=>by subst e;exact al)⟩
      skip
      go_simp
      go_at_call 72;refine (xY _ _ _ _ _ (HA.o.below l.1.out) (aH.o.below l.1.out) (N1.o.le (by omega)) (N2.o.le (by omega))).mono ?_;rintro e Z ⟨v1,rfl,y,z⟩;have E:=ze y;clear y;refine hK.out _ _ (zo (zp z l.1) (I _)) ?_;clear hK K l;intro l
      try simp only [Act.put,xST]
      clear z;refine HH.ready (rs:=[17,19]) (by kernel_rfl) (by simp) (by kernel_rfl) ?_;refine yY.cons (o:=_) rfl (fun K hK=>?_) (yY.cons (o:=_) rfl (fun K hK=>?_) yY.nil)
      rotate_left
      . skip
        go_simp
        have aD:=zf Z (.cells #[.int .i64 0,.slice none 0 0,.bool false] 68);have B:Hid (Blk _ Z.heap.size 68 #[.int .i64 0,.slice none 0 0,.bool false]):=Blk.new Z _ _;have ah:Hid (wr.heap.size<=Z.heap.size):=l.1.out.size;replace E:=ze (E.o.below aD);clear aD;refine hK.out _ _ (zo (zew l.1) (I _)) ?_;clear hK K l;intro l
        try simp only [Act.put,xST]
        refine rK 17 fun K hK=>?_
        go_simp
        go_at_call 72;refine (xY _ _ _ _ _ (aG.o.below l.1.out) (aF.o.below l.1.out) (N3.o.le (by omega)) (N4.o.le (by omega))).mono ?_;rintro e w2 ⟨v2,rfl,y,af⟩;replace E:=ze (E.o.below af);have ai:=ze y;clear y;replace B:=kb_ B af;refine hK.out _ _ (zo (zp af l.1) (I _)) ?_;clear hK K l;intro l
        try simp only [Act.put,xST]
        clear af;refine rK 18 fun K hK=>?_
        go_simp
        go_at_call 119;refine (zef _ _ _ _ _ E.o ai.o (uC (YV N1.o N2.o) (by omega)) (uC (YV N3.o N4.o) (by omega))).mono ?_;rintro e w3 ⟨v3,rfl,y,ad⟩;have ak:=ze y;clear y;clear E ai;replace B:=kb_ B ad;refine hK.out _ _ (zo (zp ad l.1) (I _)) ?_;clear hK K l;intro l
        try simp only [Act.put,xST]
        clear ad;have D:=l.1.out;replace j:=ze (Pv.below j.o D);replace u:=ze (Yb.below u.o D);replace C:=ze (Yb.below C.o D);clear D;refine HH.done (by kernel_rfl) ?_;simp only [List.drop_succ_cons,List.drop_zero];clear HA aF aH aG N1 N2 N3 N4 a0 a1 a2 b0 b1 b2 q0 q1 q2 e0 e1 e2 tL mL aL bL pL fL t3 t4 l;have ba:=j.o.ge;obtain ⟨N,R,V,Y,G,rfl,_,_,_⟩:=ak.o.form;have r0:=B.o.cell 0;have r1:=B.o.cell 1;have r2:=B.o.cell 2;obtain ⟨z0,z1,z2⟩:=fq3 B;simp at r0 r1 r2;have aC:Hid (w.heap.size<=Z.heap.size):=by have:=ah.o;have:=bf.o;show _<=_;omega
        go_wp2;go_meet;have al:=B.o.noDig (V6 _ _ _ _ _);have n1:gp≠Z.heap.size:=by have:=a7.o;have:=ah.o;omega
        have n2:gf≠Z.heap.size:=by have:=a8.o;have:=ah.o;omega
        exact ⟨rfl,Z.heap.size,rfl,aC,zc0 B.o ak.o,j.o.box ZX aC.o al,u.o.chg ZX n1 (fun b e=>by subst e;exact al),C.o.chg ZX n2 (fun b e=>by subst e;exact al)⟩
      skip
      go_simp
      go_at_call 72;refine (xY _ _ _ _ _ (aG.o.below l.1.out) (aF.o.below l.1.out) (N3.o.le (by omega)) (N4.o.le (by omega))).mono ?_;rintro e w2 ⟨v2,rfl,y,af⟩;replace E:=ze (E.o.below af);have ai:=ze y;clear y;refine hK.out _ _ (zo (zp af l.1) (I _)) ?_;clear hK K l;intro l
      try simp only [Act.put,xST]
      clear af;refine HH.ready (rs:=[18,19]) (by kernel_rfl) (by simp) (by kernel_rfl) ?_;refine yY.cons (o:=_) rfl (fun K hK=>?_) (yY.cons (o:=_) rfl (fun K hK=>?_) yY.nil)
      . skip
        go_simp
        go_at_call 119;refine (zef _ _ _ _ _ E.o ai.o (uC (YV N1.o N2.o) (by omega)) (uC (YV N3.o N4.o) (by omega))).mono ?_;rintro e w3 ⟨v3,rfl,y,ad⟩;have ak:=ze y;clear y;clear E ai;refine hK.out _ _ (zo (zp ad l.1) (I _)) ?_;clear hK K l;intro l
        try simp only [Act.put,xST]
        clear ad;have D:=l.1.out;replace j:=ze (Pv.below j.o D);replace u:=ze (Yb.below u.o D);replace C:=ze (Yb.below C.o D);clear D;refine rK 19 fun K hK=>?_
        go_simp
        have aD:=zf w3 (.cells #[.int .i64 0,.slice none 0 0,.bool false] 68);clear aD;refine hK.out _ _ (zo (zew l.1) (I _)) ?_;clear hK K l;intro l
        try simp only [Act.put,xST]
        refine HH.done (by kernel_rfl) ?_;simp only [List.drop_succ_cons,List.drop_zero];clear HA aF aH aG N1 N2 N3 N4 a0 a1 a2 b0 b1 b2 q0 q1 q2 e0 e1 e2 tL mL aL bL pL fL t3 t4 l;have ba:=j.o.ge;obtain ⟨N,R,V,Y,G,rfl,_,_,_⟩:=ak.o.form;go_wp2;go_meet;have hx:=zf w3 (.cells #[.int .i64 N,.slice R V Y,.bool G] 68);exact ⟨rfl,w3.heap.size,rfl,ba,⟨N,R,V,Y,G,Blk.new _ _ _,ak.o.below hx⟩,j.o.below hx,u.o.below hx,C.o.below hx⟩
      skip
      go_simp
      have aD:=zf w2 (.cells #[.int .i64 0,.slice none 0 0,.bool false] 68);have B:Hid (Blk _ w2.heap.size 68 #[.int .i64 0,.slice none 0 0,.bool false]):=Blk.new w2 _ _;have ah:Hid (wr.heap.size<=w2.heap.size):=l.1.out.size;replace E:=ze (E.o.below aD);replace ai:=ze (ai.o.below aD);clear aD;refine hK.out _ _ (zo (zew l.1) (I _)) ?_;clear hK K l;intro l
      try simp only [Act.put,xST]
      refine rK 18 fun K hK=>?_
      go_simp
      go_at_call 119;refine (zef _ _ _ _ _ E.o ai.o (uC (YV N1.o N2.o) (by omega)) (uC (YV N3.o N4.o) (by omega))).mono ?_;rintro e w3 ⟨v3,rfl,y,ad⟩;have ak:=ze y;clear y;clear E ai;replace B:=kb_ B ad;refine hK.out _ _ (zo (zp ad l.1) (I _)) ?_;clear hK K l;intro l
      try simp only [Act.put,xST]
      clear ad;have D:=l.1.out;replace j:=ze (Pv.below j.o D);replace u:=ze (Yb.below u.o D);replace C:=ze (Yb.below C.o D);clear D;refine HH.done (by kernel_rfl) ?_;simp only [List.drop_succ_cons,List.drop_zero];clear HA aF aH aG N1 N2 N3 N4 a0 a1 a2 b0 b1 b2 q0 q1 q2 e0 e1 e2 tL mL aL bL pL fL t3 t4 l;have ba:=j.o.ge;obtain ⟨N,R,V,Y,G,rfl,_,_,_⟩:=ak.o.form;have r0:=B.o.cell 0;have r1:=B.o.cell 1;have r2:=B.o.cell 2;obtain ⟨z0,z1,z2⟩:=fq3 B;simp at r0 r1 r2;have aC:Hid (w.heap.size<=w2.heap.size):=by have:=ah.o;have:=bf.o;show _<=_;omega
      go_wp2;go_meet;have al:=B.o.noDig (V6 _ _ _ _ _);have n1:gp≠w2.heap.size:=by have:=a7.o;have:=ah.o;omega
      have n2:gf≠w2.heap.size:=by have:=a8.o;have:=ah.o;omega
      exact ⟨rfl,w2.heap.size,rfl,aC,zc0 B.o ak.o,j.o.box ZX aC.o al,u.o.chg ZX n1 (fun b e=>by subst e;exact al),C.o.chg ZX n2 (fun b e=>by subst e;exact al)⟩
     case rest=>
      clear j u C HA aF aH aG N1 N2 N3 N4 a0 a1 a2 b0 b1 b2 q0 q1 q2 e0 e1 e2 tL mL aL bL pL fL t3 t4 a7 a8;obtain ⟨rfl,gx,rfl,ah,b7,j,u,C⟩:=hcut
      skip
      obtain ⟨xx,xA,xn,xc,xg,bd,bO⟩:=b7.o;obtain ⟨x0,x1,x2,_⟩:=bp3 bd;have xL:=bd.lt;have tL:=j.o.tab.lt;have d4:wc.cell? ⟨F.gt,4,none⟩=some (.int .i64 dx):=by rw [j.o.tab.cell, <- ae.o];rfl
      have d5:wc.cell? ⟨F.gt,5,none⟩=some (.slice dA dn dc):=by rw [j.o.tab.cell, <- ae.o];rfl
      have d6:wc.cell? ⟨F.gt,6,none⟩=some (.bool dg):=by rw [j.o.tab.cell, <- ae.o];rfl
      have bX:=ze bO;have bG:=ze (j.o.chg.num HD.o bD.o);have NX:=ze (zwh (YV (HF.o.cell i k (by omega) ab) (HF.o.cell r c (by omega) hc)) (YV (HF.o.cell i c (by omega) hc) (HF.o.cell r k (by omega) ab)));have ND:Hid (T.den≠0):=by have:=HF.o.den;show T.den≠0;omega
      clear bd bO
      go_upto_region 11 with fail
      have I:∀ w',Hid (Below wc.heap.size wc w')->w'.cell? ⟨gx,0,none⟩=some (.int .i64 xx)/\w'.cell? ⟨gx,1,none⟩=some (.slice xA xn xc)/\w'.cell? ⟨gx,2,none⟩=some (.bool xg)/\w'.cell? ⟨F.gt,4,none⟩=some (.int .i64 dx)/\w'.cell? ⟨F.gt,5,none⟩=some (.slice dA dn dc)/\w'.cell? ⟨F.gt,6,none⟩=some (.bool dg):=fun w' hB=>⟨zq hB xL x0,zq hB xL x1,zq hB xL x2,zq hB tL d4,zq hB tL d5,zq hB tL d6⟩
      refine Xo (S:=fun w' =>Hid (Below wc.heap.size wc w')/\w'.cell? ⟨gx,0,none⟩=some (.int .i64 xx)/\w'.cell? ⟨gx,1,none⟩=some (.slice xA xn xc)/\w'.cell? ⟨gx,2,none⟩=some (.bool xg)/\w'.cell? ⟨F.gt,4,none⟩=some (.int .i64 dx)/\w'.cell? ⟨F.gt,5,none⟩=some (.slice dA dn dc)/\w'.cell? ⟨F.gt,6,none⟩=some (.bool dg)) 10 12 7 5 12 rfl (by kernel_rfl) rfl rfl rfl (by kernel_rfl) (by kernel_rfl) (by kernel_rfl) rfl (zo (zt wc) (I _)) ?_ ?_ fun l=>?_
      . intro _ _ _ _ _ h9;exact h9
      . intro _ _ _ _ h9;exact h9
      simp only [zcl,zwe,List.take_succ_cons,List.take_zero]
      iterate 7 refine yd ?_
      refine zQ ?_;refine rK 7 fun K hK=>?_
      go_simp
      go_at_call 118;refine (zbv _ _ _ _ _ (bX.o.below l.1.out) (bG.o.below l.1.out) ND.out (uC NX.out (by omega)) (HF.o.fden.le (by omega))).mono ?_;rintro e Z ⟨v,v',rfl,y,cn,z⟩;have E:=ze y;clear y cn;refine hK.out _ _ (zo (zp z l.1) (I _)) ?_;clear hK K l;intro l
      try simp only [Act.put,xST]
      clear z;refine tK 8 ?_;refine tK 9 ?_;refine tK 10 ?_;refine tK 11 ?_;have D:=(l.1).out;replace j:=ze (Pv.below j.o D);replace u:=ze (Yb.below u.o D);replace C:=ze (Yb.below C.o D);clear D l I;refine hdn ?_;simp only [xDR];clear bX bG NX ND x0 x1 x2 d4 d5 d6 xL tL b7 ah;obtain ⟨N,R,V,Y,G,rfl,_,_,_⟩:=E.o.form;obtain ⟨u0,u1,u2,s0,s1,s2⟩:=(j.o.mat.rows i Q).2.slots ab;have z0:=(j.o.mat.rows i Q).2.frozen (k*3);have z1:=(j.o.mat.rows i Q).2.frozen (k*3+1);have z2:=(j.o.mat.rows i Q).2.frozen (k*3+2);have J:Hid (Pv w base m L F cs (T.stA r c i (k+1)) (World.numAt Z (F.g i) k N R V Y G)):=j.o.set (by omega) ab E.o (fun i' k' _ _=>T.stA_next r c i k bj.o bp.o i' k');have aq:=ze (j.o.keepBox (i:=i) (k:=k) (x:=N) (X:=R) (n1:=V) (c:=Y) (ng:=G) (by omega) u.o aN.o);have cq:=ze (j.o.keepBox (i:=i) (k:=k) (x:=N) (X:=R) (n1:=V) (c:=Y) (ng:=G) (by omega) C.o b3.o);clear j u C E;go_wp2;go_roundw
      case rel=>exact ⟨k+1,by omega,by go_num,J,aq,cq⟩
      case measure=>simp [intOf];omega
  obtain rfl:i=m+1:=by omega
  skip
  have t3:wr.cell? ⟨F.gt,3,none⟩=some (.slice (some ⟨F.gm,0,none⟩) (m+1) F.cm):=by rw [j.o.tab.cell, <- ae.o];rfl
  have t4:=j.o.mat.cell (i:=r) (by omega);have U:Hid (Pv w base m L F cs (T.stB r c 0) wr):=j.o.congr fun i' k' hi' _=>T.stB_start r c m i' k' hi'
  clear j;go_wp2
  go_loopw [98] (PivR w base m L F cs T r c gp) (fun kv _=>L - (intOf kv).toNat)
  case atStart=>exact ⟨0,uB,rfl,U,u⟩
  case round=>
   clear U u t3 t4;obtain ⟨k,hk,rfl,j,u⟩:=hrel
   by_cases ab:k<L
   . have bI:(k:Int)<(L:Int):=by omega
     by_cases au:k=c
     rotate_left
     . have bo:((k:Int) != (c:Int))=true:=by rw [bne_iff_ne];omega
       have bp:=ze au;obtain ⟨ax,aA,an,ac,ag,a0,a1,a2,ha⟩:=j.o.mat.at_ (i:=r) (k:=k) (by omega) ab;rw [T.stB_here] at ha;clear au;go_wp2_with fail;refine (xj _ _ _ ha).mono ?_;rintro e Z ⟨v,rfl,y,z⟩;replace j:=ze (j.o.below z);replace u:=ze (u.o.below z);clear ha a0 a1 a2 z;obtain ⟨N,R,V,Y,G,rfl,_,_,_⟩:=y.form;obtain ⟨u0,u1,u2,s0,s1,s2⟩:=(j.o.mat.rows r (by omega)).2.slots ab;have z0:=(j.o.mat.rows r (by omega)).2.frozen (k*3);have z1:=(j.o.mat.rows r (by omega)).2.frozen (k*3+1);have z2:=(j.o.mat.rows r (by omega)).2.frozen (k*3+2);have J:Hid (Pv w base m L F cs (T.stB r c (k+1)) (World.numAt Z (F.g r) k N R V Y G)):=j.o.set (by omega) ab y (fun i' k' _ _=>T.stB_next r c k bp.o i' k');have aq:=ze (j.o.keepBox (i:=r) (k:=k) (x:=N) (X:=R) (n1:=V) (c:=Y) (ng:=G) (by omega) u.o aN.o);clear j u y;go_wp2;go_roundw
       case rel=>(repeat apply Exists.intro);exact ⟨⟨k+1,by omega,by go_num,J,aq⟩,rfl⟩
       case measure=>simp [intOf];omega
     have bo:((k:Int) != (c:Int))=false:=by rw [bne_eq_false_iff_eq];omega
     have U:Hid (Pv w base m L F cs (T.stB r c (k+1)) wr):=j.o.congr fun i' k' _ _=>by subst au;exact T.stB_col r k i' k'
     clear au j;go_wp2;go_round
     case rel=>exact ⟨k+1,by omega,by go_num,U,u⟩
     case measure=>simp [intOf];omega
   obtain rfl:L=k:=by omega
   skip
   have d4:wr.cell? ⟨F.gt,4,none⟩=some (.int .i64 dx):=by rw [j.o.tab.cell, <- ae.o];rfl
   have d5:wr.cell? ⟨F.gt,5,none⟩=some (.slice dA dn dc):=by rw [j.o.tab.cell, <- ae.o];rfl
   have d6:wr.cell? ⟨F.gt,6,none⟩=some (.bool dg):=by rw [j.o.tab.cell, <- ae.o];rfl
   have hdn:=j.o.chg.num HD.o bD.o;obtain ⟨u0,u1,u2,s0,s1,s2⟩:=(j.o.mat.rows r (by omega)).2.slots hc;have z0:=(j.o.mat.rows r (by omega)).2.frozen (c*3);have z1:=(j.o.mat.rows r (by omega)).2.frozen (c*3+1);have z2:=(j.o.mat.rows r (by omega)).2.frozen (c*3+2);have J:Hid (Pv w base m L F cs (T.bare r c) (World.numAt wr (F.g r) c dx dA dn dc dg)):=j.o.set (by omega) hc hdn (fun i' k' _ hk' =>T.stB_end r c L i' k' hk');have aq:=ze (j.o.keepBox (i:=r) (k:=c) (x:=dx) (X:=dA) (n1:=dn) (c:=dc) (ng:=dg) (by omega) u.o aN.o);clear j u hdn HD
   go_upto_region 23 with fail
   clear d4 d5 d6 u0 u1 u2 s0 s1 s2 z0 z1 z2;obtain ⟨W3,bq⟩:∃ x,x=World.numAt wr (F.g r) c dx dA dn dc dg:=⟨_,rfl⟩;rw [<- bq] at J aq;have bY:((wr.setCell ⟨F.g r,c*3,none⟩ (.int .i64 dx)).setCell ⟨F.g r,c*3+1,none⟩ (.slice dA dn dc)).setCell ⟨F.g r,c*3+2,none⟩ (.bool dg)=W3:=bq.symm;rw [bY];clear bY bq;have bN:0<L - 1:=by omega
   obtain ⟨gb,cb,eb,_,_⟩:=aZ.o.1.form (Nat.lt_of_le_of_lt (uB) hr);obtain ⟨O,co,eo,_,_⟩:=a3.o.1.form bN;have av:=ze (J.o.own aZ.o);have az:=ze (J.o.own a3.o);have t7:W3.cell? ⟨F.gt,7,none⟩=some (.slice (some ⟨gb,0,none⟩) m cb):=by rw [J.o.tab.cell, <- ae.o, <- eb];rfl
   have t8:W3.cell? ⟨F.gt,8,none⟩=some (.slice (some ⟨O,0,none⟩) (L - 1) co):=by rw [J.o.tab.cell, <- ae.o, <- eo];rfl
   have bw:gb≠O:=fun e=>br.o gb (by rw [eb];rfl) (by rw [eo,e];rfl)
   rw [eb] at av;rw [eo] at az;have b1:W3.cell? ⟨gb,r,none⟩=some (.int .i64 (T.basic r:Nat)):=by rw [av.o.1.cellAt r (by omega)];exact Zc hr
   have o1:W3.cell? ⟨O,c - 1,none⟩=some (.int .i64 (T.other (c - 1):Nat)):=by rw [az.o.1.cellAt (c - 1) (by omega)];exact Zc (by omega)
   have z1:=av.o.1.frozenAt r;have z2:=az.o.1.frozenAt (c - 1);have cu:(c:Int) - 1<((L - 1:Nat):Int):=by omega
   have cx:(1:Int)<=(c:Int):=by omega
   have cp:((c:Int) - 1).toNat=c - 1:=by omega
   have cc:(r:Int)<(m:Int):=by omega
   clear ch cd
   go_region
   generalize a4:((W3.setCell ⟨gb,r,none⟩ (.int .i64 (T.other (c - 1):Nat))).setCell ⟨O,c - 1,none⟩ (.int .i64 (T.basic r:Nat))).drew=W4
   have aX:Hid (Chg (fun b=>b=gb\/b=O) W3 W4):=by
    rw [<- a4];exact Chg.trans (Chg.setCell (S:=fun b=>b=gb\/b=O) (Chg.setCell (S:=fun b=>b=gb\/b=O) (Chg.refl W3) (p:=⟨gb,r,none⟩) (.inl rfl) _) (p:=⟨O,c - 1,none⟩) (.inr rfl) _) (Chg.of_below (S:=fun b=>b=gb\/b=O) (zt _).out) (fun b _ h=>h)
   have bs:Hid (Zj W4 base 3 1 F.bv m (xe m (T.pivot r c).basic)):=by
    have h1:=av.o.stored r (xM (T.other (c - 1):Nat));rw [zci] at h1
    have h2:=h1.chg (Chg.setCell (S:=fun b=>b=O) (Chg.refl _) (p:=⟨O,c - 1,none⟩) rfl (.int .i64 (T.basic r:Nat))) (fun b hb e=>bw (by
     have:gb=b:=by simpa [Value.ownBlock] using hb
     rw [this];exact e))
    have h3:=h2.below (zt _).out;rw [a4, <- eb] at h3;exact h3
   have bi:Hid (Zj W4 base 3 1 F.ov (L - 1) (xe (L - 1) (T.pivot r c).other)):=by
    have h1:=az.o.chg (Chg.setCell (S:=fun b=>b=gb) (Chg.refl _) (p:=⟨gb,r,none⟩) rfl (.int .i64 (T.other (c - 1):Nat))) (fun b hb e=>bw (by
     have:O=b:=by simpa [Value.ownBlock] using hb
     rw [this];exact e.symm))
    have h2:=h1.stored (c - 1) (xM (T.basic r:Nat));rw [zci] at h2;have h3:=h2.below (zt _).out;rw [a4, <- eo] at h3;exact h3
   have bE:Hid (gb<w.heap.size):=(aZ.o.1.lt gb (by rw [eb];rfl)).2;have bJ:Hid (O<w.heap.size):=(a3.o.1.lt O (by rw [eo];rfl)).2
   have hS:∀ b,(b=gb\/b=O)->ye W3 b:=fun b h=>by
    rcases h with rfl | rfl
    . exact av.o.2 _ rfl
    . exact az.o.2 _ rfl
   have bV:∀ b,(b=gb\/b=O)->∀ i,i<=m->b≠F.g i:=fun b h i hi e=>by
    obtain ⟨bh,k1⟩:=(J.o.mat.rows i (by omega)).2.heap
    rcases h with rfl | rfl
    . obtain ⟨aJ,M⟩:=av.o.heap (b:=b) rfl
      exact xD k1 M (by decide) e.symm
    . obtain ⟨aJ,M⟩:=az.o.heap (b:=b) rfl
      exact xD k1 M (by decide) e.symm
   have bU:¬ (F.gm=gb\/F.gm=O):=fun h=>by
    obtain ⟨bh,k1⟩:=J.o.mat.own.heap (b:=F.gm) rfl
    rcases h with h | h
    . obtain ⟨aJ,M⟩:=av.o.heap (b:=gb) rfl
      rw [h] at k1;rw [k1] at M;injection M with M;injection M with _ k3 _;exact absurd k3 (by decide)
    . obtain ⟨aJ,M⟩:=az.o.heap (b:=O) rfl
      rw [h] at k1;rw [k1] at M;injection M with M;injection M with _ k3 _;exact absurd k3 (by decide)
   have bW:¬ (F.gt=gb\/F.gt=O):=fun h=>by
    rcases h with h | h
    . obtain ⟨aJ,M⟩:=av.o.heap (b:=gb) rfl
      exact xD J.o.tab M (by decide) h
    . obtain ⟨aJ,M⟩:=az.o.heap (b:=O) rfl
      exact xD J.o.tab M (by decide) h
   have aO:=ze (J.o.anew aX.o bV bU hS (aX.o.blk J.o.tab bW));have be:=ze (aq.o.chg aX.o (fun h=>by have:=bE.o;have:=bJ.o;have:=aN.o;omega) hS)
   have bH:Hid (Chg (F.S m) w W4):=Chg.trans (J.o.chg.mono (T:=F.S m) (fun b _ h=>.inr (.inl h))) aX.o (fun b _ h=>by
    rcases h with rfl | rfl
    . exact .inr (.inr (.inl (by rw [eb];rfl)))
    . exact .inr (.inr (.inr (by rw [eo];rfl))))
   clear a4 aX av az J aq hS bV bU bW t7 t8 bw b1 o1 z1 z2 cu cp cc bN aZ a3 bE bJ
   skip
   obtain ⟨qx,qA,qn,qc,qg,am,ap⟩:=be.o;obtain ⟨q0,q1,q2,_⟩:=bp3 am;have aj:Blk W4 F.gt 152 (F.cells m dx dA dn dc dg):=by rw [ae.o];exact aO.o.tab
   have d4:W4.cell? ⟨F.gt,4,none⟩=some (.int .i64 dx):=by rw [aj.cell];rfl
   have d5:W4.cell? ⟨F.gt,5,none⟩=some (.slice dA dn dc):=by rw [aj.cell];rfl
   have d6:W4.cell? ⟨F.gt,6,none⟩=some (.bool dg):=by rw [aj.cell];rfl
   have z4:=aj.frozen 4;have z5:=aj.frozen 5;have z6:=aj.frozen 6;have b4:ye W4 F.gt:=aj.noDig (zgw (vu bs.o) (vu bi.o))
   have bQ:gp≠F.gt:=fun e=>by
    have:=aO.o.oldt;exact xD am aj (by decide) e
   obtain ⟨W5,a9⟩:∃ x,x=((W4.setCell ⟨F.gt,4,none⟩ (.int .i64 qx)).setCell ⟨F.gt,5,none⟩ (.slice qA qn qc)).setCell ⟨F.gt,6,none⟩ (.bool qg):=⟨_,rfl⟩;have aS:Chg (· =F.gt) W4 W5:=by rw [a9];exact zrb
   have aB:∀ b,b=F.gt->ye W4 b:=fun b e=>by subst e;exact b4
   have bb:Blk W5 F.gt 152 (F.cells m qx qA qn qc qg):=by rw [a9];exact zqi aj
   have ao:=ze (aO.o.anew aS (fun b e i hi e2=>by subst e;exact aO.o.ntab hi e2) (fun e=>by
    obtain ⟨bh,k1⟩:=aO.o.mat.own.heap (b:=F.gm) rfl
    exact xD aj k1 (by decide) e.symm) aB bb)
   have aP:=ze (be.o.chg aS bQ aB)
   have aI:∀ v n xs,Zj W4 base 3 1 v n xs->Zj W5 base 3 1 v n xs:=fun v n xs h=>h.chg aS (fun b hb e=>by
    obtain ⟨aJ,M⟩:=h.heap hb
    exact xD aj M (by decide) e.symm)
   have ay:=ze (aI _ _ _ bs.o);have ar:=ze (aI _ _ _ bi.o);have aE:Hid (Chg (F.S m) w W5):=Chg.trans bH.o aS (fun b _ e=>.inl e);have aa:=ze bb;have bl:=ze (aS.num ap aB);clear bs bi aO be bH aj b4 aB aI aS bb am ap
   go_upto_region 25 with fail
   rw [<- a9];clear a9 q0 q1 q2 d4 d5 d6 z4 z5 z6 bQ;obtain ⟨cA,cz,cB,cw,cv,am,ap⟩:=aP.o;obtain ⟨q0,q1,q2,_⟩:=bp3 am;have HQ:=ze ap
   skip
   have aM:=fun w' (h:Below W5.heap.size W5 w')=>X9 _ _ w' (ap.below h)
   by_cases aK:T.cell r c<0
   rotate_left
   . obtain ⟨G,bS,cy⟩:∃ G:Int,zO (T.cell r c) 0=G/\¬ G<0:=by
      unfold zO;rw [if_neg aK]
      split
      . exact ⟨1,rfl,by omega⟩
      exact ⟨0,rfl,by omega⟩
     rw [bS] at aM;have aY:=zpd (T:=T) (r:=r) (c:=c) aK;have aW:=ze aY;clear ap aK bS aY;go_wp2_with fail;refine (aM _ (yR _)).mono ?_;rintro e Z ⟨rfl,z⟩;clear aM q0 q1 q2 am;have ca:=ze (ao.o.below z);have cf:=ze (ay.o.below z);have ck:=ze (ar.o.below z);have cg:=ze (bl.o.below z);have ce:Hid (Chg (F.S m) w Z):=Chg.trans aE.o (Chg.of_below (S:=F.S m) z) (fun _ _ h=>h);clear z ao aP ay ar aa HQ aE bl;go_wp2
     go_end0
     refine ⟨rfl,yg.of_pv ca.o ?_ (fun i k _ _=>aW.o.2 i k) cf.o ck.o br.o bP.o bK.o,ce.o⟩;rw [aW.o.1];exact cg.o
   have e:zO (T.cell r c) 0= -1:=by unfold zO;rw [if_pos aK]
   rw [e] at aM;have aY:=zq0 (T:=T) (r:=r) (c:=c) aK;have aW:=ze aY;clear ap aK e aY;go_wp2_with fail;refine (aM _ (yR _)).mono ?_;rintro e Z ⟨rfl,z⟩;clear aM q0 q1 q2 am;replace ao:=ze (ao.o.below z);replace aP:=ze (aP.o.below z);replace ay:=ze (ay.o.below z);replace ar:=ze (ar.o.below z);replace aa:=kb_ aa z;replace HQ:=ze (HQ.o.below z);replace aE:Hid (Chg (F.S m) w Z):=Chg.trans aE.o (Chg.of_below (S:=F.S m) z) (fun _ _ h=>h);clear z bl;obtain ⟨qx,qA,qn,qc,qg,am,ap⟩:=aP.o;obtain ⟨q0,q1,q2,_⟩:=bp3 am;clear HQ am;go_wp2_with fail;refine (xj _ _ _ ap).mono ?_;rintro e w2 ⟨v,rfl,y,z⟩;replace ao:=ze (ao.o.below z);replace ay:=ze (ay.o.below z);replace ar:=ze (ar.o.below z);replace aa:=kb_ aa z;replace aE:Hid (Chg (F.S m) w w2):=Chg.trans aE.o (Chg.of_below (S:=F.S m) z) (fun _ _ h=>h);clear q0 q1 q2 ap z aP;obtain ⟨N,R,V,Y,G,rfl,_,_,_⟩:=y.form;have z4:=aa.o.frozen 4;have z5:=aa.o.frozen 5
   have z6:=aa.o.frozen 6;have d4:=aa.o.cell 4;have d5:=aa.o.cell 5;have d6:=aa.o.cell 6
   simp [zZ.cells] at d4 d5 d6
   obtain ⟨W7,a6⟩:∃ x,x=((w2.setCell ⟨F.gt,4,none⟩ (.int .i64 N)).setCell ⟨F.gt,5,none⟩ (.slice R V Y)).setCell ⟨F.gt,6,none⟩ (.bool G):=⟨_,rfl⟩;have aV:Chg (· =F.gt) w2 W7:=by rw [a6];exact zrb
   have b6:ye w2 F.gt:=aa.o.noDig (zgw (vu ay.o) (vu ar.o));have aB:∀ b,b=F.gt->ye w2 b:=fun b e=>by subst e;exact b6
   have b5:Blk W7 F.gt 152 (F.cells m N R V Y G):=by rw [a6];exact zqi aa.o
   have aU:=ze (ao.o.anew aV (fun b e i hi e2=>by subst e;exact ao.o.ntab hi e2) (fun e=>by
    obtain ⟨bh,k1⟩:=ao.o.mat.own.heap (b:=F.gm) rfl
    exact xD aa.o k1 (by decide) e.symm) aB b5)
   have aI:∀ v n xs,Zj w2 base 3 1 v n xs->Zj W7 base 3 1 v n xs:=fun v n xs h=>h.chg aV (fun b hb e=>by
    obtain ⟨aJ,M⟩:=h.heap hb
    exact xD aa.o M (by decide) e.symm)
   have cl:=ze (aI _ _ _ ay.o);have ci:=ze (aI _ _ _ ar.o);have b9:Hid (Chg (F.S m) w W7):=Chg.trans aE.o aV (fun b _ e=>.inl e);have cj:=ze (aV.num y aB);have ct:Hid (∀ b,F.rows m b->ye W7 b):=fun b ⟨i,hi,e⟩=>by subst e;exact aU.o.noDig hi
   clear ay ar ao aE b6 aB aI aV b5 y aa
   go_upto_region 27 with fail
   rw [<- a6];clear a6 d4 d5 d6 z4 z5 z6;obtain ⟨aR,bm⟩:∃ aR,Hid (F.cells m N R V Y G=aR):=⟨_,rfl⟩;rw [bm.o] at aU;have t3:W7.cell? ⟨F.gt,3,none⟩=some (.slice (some ⟨F.gm,0,none⟩) (m+1) F.cm):=by rw [aU.o.tab.cell, <- bm.o];rfl
   go_wp2
   go_loopw [165] (PivD W7 base m L F aR (T.bare r c)) (fun iv _=>m+1 - (intOf iv).toNat)
   case atStart=>exact ⟨0,uB,rfl,aU.o.congr fun i k _ _=>zqp _ i k⟩
   case round=>
    clear aU t3;obtain ⟨i,hi,rfl,j⟩:=hrel
    by_cases Q:i<m+1
    rotate_left
    . obtain rfl:i=m+1:=by omega
      go_wp2
      go_end0
      refine ⟨rfl,yg.of_pv (w0:=W7) (A:=fun i k=> -(T.bare r c i k)) (x:=N) (X:=R) (n:=V) (c:=Y) (ng:=G) ?_ ?_ ?_ (j.o.own cl.o) (j.o.own ci.o) br.o bP.o bK.o,b9.o.trans (j.o.chg.mono (T:=F.S m) (fun b _ h=>.inr (.inl h))) (fun _ _ h=>h)⟩
      . rw [bm.o];exact j.o.congr fun i' k' hi' _=>(zwb _ m i' k' hi').symm
      . rw [aW.o.1];exact j.o.chg.num cj.o ct.o
      . exact fun i k _ _=>aW.o.2 i k
    have cr:(i:Int)<(m:Int)+1:=by omega
    have t4:=j.o.mat.cell (i:=i) Q;go_wp2
    go_loopw [171] (PivE W7 base m L F aR (T.bare r c) i) (fun kv _=>L - (intOf kv).toNat)
    case atStart=>exact ⟨0,uB,rfl,j⟩
    case round=>
     clear j t4;obtain ⟨k,hk,rfl,j⟩:=hrel
     by_cases ab:k<L
     . have bI:(k:Int)<(L:Int):=by omega
       obtain ⟨ax,aA,an,ac,ag,a0,a1,a2,ha⟩:=j.o.mat.at_ (i:=i) (k:=k) Q ab;rw [ztm] at ha;go_wp2_with fail;refine (xj _ _ _ ha).mono ?_;rintro e w3 ⟨v,rfl,y,z⟩;replace j:=ze (j.o.below z);clear ha a0 a1 a2 z;obtain ⟨N,R,V,Y,G,rfl,_,_,_⟩:=y.form;obtain ⟨u0,u1,u2,s0,s1,s2⟩:=(j.o.mat.rows i Q).2.slots ab;have z0:=(j.o.mat.rows i Q).2.frozen (k*3);have z1:=(j.o.mat.rows i Q).2.frozen (k*3+1);have z2:=(j.o.mat.rows i Q).2.frozen (k*3+2);have J:Hid (Pv W7 base m L F aR (stD (T.bare r c) i (k+1)) (World.numAt w3 (F.g i) k N R V Y G)):=j.o.set (by omega) ab y (fun i' k' _ _=>ztw _ i k i' k');clear j y;go_wp2;go_roundw
       case rel=>first | exact ⟨k+1,by omega,by go_num,J⟩ | ((repeat apply Exists.intro);exact ⟨⟨k+1,by omega,by go_num,J⟩,rfl⟩)
       case measure=>simp [intOf];omega
     obtain rfl:L=k:=by omega
     have U:Hid (Pv W7 base m L F aR (stD (T.bare r c) (i+1) 0) wr):=j.o.congr fun i' k' _ hk' =>zwp _ i L i' k' hk'
     clear j;go_wp2;go_round
     case rel=>exact ⟨i+1,by omega,by go_num,U⟩
     case measure=>simp [intOf];omega
end Go.Proofs.YtnjljgidphemdaaGreatDoor
