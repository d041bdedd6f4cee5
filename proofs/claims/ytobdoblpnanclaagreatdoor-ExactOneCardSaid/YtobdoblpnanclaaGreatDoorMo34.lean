/- Parts of the proof. -/
import Derived.Deep.CutRange
import Derived.Test.YtobdoblpnanclaaGreatDoorMo16
import Derived.Test.YtobdoblpnanclaaGreatDoorMo18
set_option linter.all false
namespace Go.Proofs.YtobdoblpnanclaaGreatDoor
open Proofs.Tryz Go.RowKit Go.Deep
attribute [local go_sem ↓] Go.wp_at_zero Go.wp_at_succ
theorem Fit.le {z:Int} (h:Fit z) {M:Nat} (hM:8388608<=M):len 4294967296 z.natAbs<=M:=uC h hM
theorem Yo {a b:Int} (ha:Fit a) (hb:Fit b):len 4294967296 (a*b).natAbs<=16777216:=Z8 (M:=8388608) (K:=8388608) ha hb
theorem zum {a b:Int} {M:Nat} (ha:len 4294967296 a.natAbs<=M) (hb:len 4294967296 b.natAbs<=M):len 4294967296 (a - b).natAbs<=M+1:=by
 rw [Int.sub_eq_add_neg]
 exact zku ha (by rw [Int.natAbs_neg];exact hb)
def PivA (w0:World) (base m L:Nat) (F:zG) (cs:Array Value) (T:zk) (r c gp:Nat) (iv:Value) (wr:World):Prop:=
 ∃ i:Nat,i<=m+1/\iv= .int .i64 i/\Hid (Pv w0 base m L F cs (T.stA r c i 0) wr)/\Hid (Z3 wr gp (T.cell r c))
def PivB (w0:World) (base m L:Nat) (F:zG) (cs:Array Value) (T:zk) (r c gp i gf:Nat) (kv:Value) (wr:World):Prop:=
 ∃ k:Nat,k<=L/\kv= .int .i64 k/\Hid (Pv w0 base m L F cs (T.stA r c i k) wr)/\Hid (Z3 wr gp (T.cell r c))/\Hid (Z3 wr gf (T.cell i c))
def PivR (w0:World) (base m L:Nat) (F:zG) (cs:Array Value) (T:zk) (r c gp:Nat) (kv:Value) (wr:World):Prop:=
 ∃ k:Nat,k<=L/\kv= .int .i64 k/\Hid (Pv w0 base m L F cs (T.stB r c k) wr)/\Hid (Z3 wr gp (T.cell r c))
def PivD (w0:World) (base m L:Nat) (F:zG) (cs:Array Value) (A:Nat->Nat->Int) (iv:Value) (wr:World):Prop:=∃ i:Nat,i<=m+1/\iv= .int .i64 i/\Hid (Pv w0 base m L F cs (stD A i 0) wr)
def PivE (w0:World) (base m L:Nat) (F:zG) (cs:Array Value) (A:Nat->Nat->Int) (i:Nat) (kv:Value) (wr:World):Prop:=∃ k:Nat,k<=L/\kv= .int .i64 k/\Hid (Pv w0 base m L F cs (stD A i k) wr)
theorem zmv {T:zk} {r c:Nat} (h:¬ T.cell r c<0):(T.pivot r c).den=T.cell r c/\∀ i k,(T.pivot r c).cell i k=T.bare r c i k:=by
 unfold zk.pivot
 exact ⟨by simp only [if_neg h],fun i k=>by simp only [if_neg h]⟩
theorem zom {T:zk} {r c:Nat} (h:T.cell r c<0):(T.pivot r c).den= -(T.cell r c)/\∀ i k,(T.pivot r c).cell i k= -(T.bare r c i k):=by
 unfold zk.pivot
 exact ⟨by simp only [if_pos h],fun i k=>by simp only [if_pos h]⟩
def zvq (base m L:Nat) (F:zG) (T:zk) (w:World) (e:Ending) (w' :World):Prop:=e= .returned (.tuple #[])/\zI base m L F w' T/\Chg (F.S m) w w'
set_option maxRecDepth 100000 in
set_option maxHeartbeats 8000000 in
theorem Vb (base m L:Nat) (F:zG) (T:zk) (r c:Nat) (w:World) (hT:zI base m L F w T) (hf:T.Fits m L) (hr:r<m) (hc0:0<c) (hc:c<L) (hm:m<=100000) (hL:L<=100000) (hb:base<=w.heap.size):
 Calls prog 77 #[.pointer (some ⟨F.gt,0,none⟩),.int .i64 r,.int .i64 c] w (zvq base m L F (T.pivot r c) w):=by
 obtain ⟨⟨dx,dA,dn,dc,dg,bh,bW⟩,aP,bw,bI,bu,bC,bO⟩:=hT
 have j:Hid (Pv w base m L F (F.cells m dx dA dn dc dg) T.cell w):=⟨aP,bh,Chg.refl w,fun i hi=>⟨(aP.rows i (by omega)).2.lt,(aP.rows i (by omega)).2.heap⟩,bh.lt,aP.lt.2,hb⟩
 obtain ⟨HD,aV,aW,bo,bM,bH,HF,HB⟩:=hz8 bW bw bI bu bC bO hf hb
 have bz:Hid (∀ b,F.rows m b->zO w b):=fun b ⟨i,hi,e⟩=>by subst e;exact j.o.noDig hi
 clear bh bW aP bw bI bu bC bO hf hb
 obtain ⟨cs,Z⟩:∃ cs,Hid (F.cells m dx dA dn dc dg=cs):=⟨_,rfl⟩
 rw [Z.o] at j
 have t3:w.cell? ⟨F.gt,3,none⟩=some (.slice (some ⟨F.gm,0,none⟩) (m+1) F.cm):=by rw [j.o.tab.cell, <- Z.o];rfl
 have t4:=j.o.mat.cell (i:=r) (by omega)
 obtain ⟨px,pA,pn,pc,pg,p0,p1,p2,hp⟩:=j.o.mat.at_ (i:=r) (k:=c) (by omega) hc
 have b9:(r:Int)<(m:Int)+1:=by omega
 have ce:(c:Int)<(L:Int):=by omega
 have hx:=zf w (.cells #[.int .i64 px,.slice pA pn pc,.bool pg] 58)
 have u:Hid (Z3 (w.alloc (.cells #[.int .i64 px,.slice pA pn pc,.bool pg] 58)) w.heap.size (T.cell r c)):=⟨px,pA,pn,pc,pg,Blk.new _ _ _,hp.below hx⟩
 have N:=ze (j.o.below hx)
 clear hp j hx
 go_in
 go_upto_region 1 with fail
 clear t3 t4 p0 p1 p2
 generalize w.alloc (.cells #[.int .i64 px,.slice pA pn pc,.bool pg] 58)=W1 at u N |-
 have aI:=ze (Nat.le_refl w.heap.size)
 generalize bQ:w.heap.size=gp at u |-
 have aI:Hid (w.heap.size<=gp):=ze (Nat.le_of_eq bQ)
 clear bQ
 have t3:W1.cell? ⟨F.gt,3,none⟩=some (.slice (some ⟨F.gm,0,none⟩) (m+1) F.cm):=by rw [N.o.tab.cell, <- Z.o];rfl
 go_wp2
 go_loopw [32] (PivA w base m L F cs T r c gp) (fun iv _=>m+1 - (intOf iv).toNat)
 case atStart=>exact ⟨0,uB,rfl,N.o.congr fun i k _ _=>T.stA_start r c i k,u⟩
 case round=>
  clear N u t3
  obtain ⟨i,hi,rfl,j,u⟩:=hrel
  by_cases J:i<m+1
  . have cn:(i:Int)<(m:Int)+1:=by omega
    have t4:=j.o.mat.cell (i:=i) J
    by_cases aY:i=r
    . have hd:((i:Int) == (r:Int))=true:=by rw [beq_iff_eq];omega
      have N:Hid (Pv w base m L F cs (T.stA r c (i+1) 0) wr):=j.o.congr fun i' k' _ _=>by subst aY;exact T.stA_skip i c i' k'
      clear aY j;go_wp2;go_round
      case rel=>exact ⟨i+1,by omega,by go_num,N,u⟩
      case measure=>simp [intOf];omega
    have hd:((i:Int) == (r:Int))=false:=by rw [beq_eq_false_iff_ne];omega
    have bf:=ze aY;obtain ⟨fx,fA,fn,fc,fg,f0,f1,f2,aq⟩:=j.o.mat.at_ (i:=i) (k:=c) J hc;rw [T.stA_col0] at aq;have hx:=zf wr (.cells #[.int .i64 fx,.slice fA fn fc,.bool fg] 58);have B:Hid (Z3 (wr.alloc (.cells #[.int .i64 fx,.slice fA fn fc,.bool fg] 58)) wr.heap.size (T.cell i c)):=⟨fx,fA,fn,fc,fg,Blk.new _ _ _,aq.below hx⟩;have N:=ze (j.o.below hx);have bq:=ze (u.o.below hx);have bX:=ze j.o.ge;clear aq j u hx aY
    go_upto_region 6 with fail
    clear f0 f1 f2;generalize wr.alloc (.cells #[.int .i64 fx,.slice fA fn fc,.bool fg] 58)=W2 at B N bq |-;generalize wr.heap.size=gf at B bX |-;clear t4;go_wp2
    go_loopw [46] (PivB w base m L F cs T r c gp i gf) (fun kv _=>L - (intOf kv).toNat)
    case atStart=>exact ⟨0,uB,rfl,N,bq,B⟩
    case round=>
     clear N bq B;obtain ⟨k,hk,rfl,j,u,B⟩:=hrel
     by_cases V:k<L
     rotate_left
     . obtain rfl:k=L:=by omega
       skip
       have t4:=j.o.mat.cell (i:=i) J;obtain ⟨u0,u1,u2,s0,s1,s2⟩:=(j.o.mat.rows i J).2.slots hc;have f0:=(j.o.mat.rows i J).2.frozen (c*3);have f1:=(j.o.mat.rows i J).2.frozen (c*3+1);have f2:=(j.o.mat.rows i J).2.frozen (c*3+2);obtain ⟨fx,fA,fn,fc,fg,aM,aq⟩:=B.o;obtain ⟨e0,e1,e2,_⟩:=bp3 aM;have E:Hid (Pv w base m k F cs (T.stA r c (i+1) 0) (World.numAt wr (F.g i) c fx fA fn fc fg)):=j.o.set (by omega) hc aq fun i' k' _ hk' =>T.stA_end r c i k bf.o i' k' hk'
       have al:=ze (j.o.keepBox (i:=i) (k:=c) (x:=fx) (X:=fA) (n1:=fn) (c:=fc) (ng:=fg) (by omega) u.o aI.o);clear aM aq j u B;go_wp2;go_round
       case rel=>exact ⟨i+1,by omega,by go_num,E,al⟩
       case measure=>simp [intOf];omega
     have bF:(k:Int)<(L:Int):=by omega
     by_cases ao:k=c
     . have bk:((k:Int) == (c:Int))=true:=by rw [beq_iff_eq];omega
       have N:Hid (Pv w base m L F cs (T.stA r c i (k+1)) wr):=j.o.congr fun i' k' _ _=>by subst ao;exact T.stA_col r k i bf.o i' k'
       clear ao j;go_wp2;go_round
       case rel=>exact ⟨k+1,by omega,by go_num,N,u,B⟩
       case measure=>simp [intOf];omega
     have bk:((k:Int) == (c:Int))=false:=by rw [beq_eq_false_iff_ne];omega
     have bl:=ze ao;clear ao;have t3:wr.cell? ⟨F.gt,3,none⟩=some (.slice (some ⟨F.gm,0,none⟩) (m+1) F.cm):=by rw [j.o.tab.cell, <- Z.o];rfl
     have t4:=j.o.mat.cell (i:=r) (by omega);obtain ⟨ax,aA,an,ac,ag,a0,a1,a2,ha⟩:=j.o.mat.at_ (i:=i) (k:=k) J V;rw [T.stA_here] at ha;obtain ⟨bx,bA,bn,bc,bg,b0,b1,b2,bs⟩:=j.o.mat.at_ (i:=r) (k:=k) (by omega) V;rw [T.stA_row] at bs;obtain ⟨px,pA,pn,pc,pg,a9,b5⟩:=u.o;obtain ⟨fx,fA,fn,fc,fg,aM,aq⟩:=B.o;obtain ⟨q0,q1,q2,_⟩:=bp3 a9;obtain ⟨e0,e1,e2,_⟩:=bp3 aM;have tL:=j.o.tab.lt;have mL:=j.o.mat.lt.2;have aL:=(j.o.mat.rows i J).2.lt;have bL:=(j.o.mat.rows r (by omega)).2.lt;have pL:=a9.lt;have fL:=aM.lt;obtain ⟨a3,a4,HA,aB,aD,aC⟩:=hz6 pL fL ha bs b5 aq;have N1:=ze (HF.o.cell i k (by omega) V);have N2:=ze (HF.o.cell r c (by omega) hc);have N3:=ze (HF.o.cell i c (by omega) hc);have N4:=ze (HF.o.cell r k (by omega) V);clear ha bs a9 b5 aM aq
     go_upto_region 10 with fail
     go_cut [11,46] from 46 to 83 (fun I si wc=>si= .int .i64 k/\∃ gx,I= .pointer (some ⟨gx,0,none⟩)/\Hid (w.heap.size<=gx)/\Hid (Z3 wc gx (T.cell i k*T.cell r c - T.cell i c*T.cell r k))/\Hid (Pv w base m L F cs (T.stA r c i k) wc)/\Hid (Z3 wc gp (T.cell r c))/\Hid (Z3 wc gf (T.cell i c)))
     case first=>
      skip
      have Q:∀ w',Hid (Below wr.heap.size wr w')->w'.cell? ⟨F.gt,3,none⟩=some (.slice (some ⟨F.gm,0,none⟩) (m+1) F.cm)/\w'.cell? ⟨F.gm,r,none⟩=some (.slice (some ⟨F.g r,0,none⟩) L L)/\w'.cell? ⟨F.g i,k*3,none⟩=some (.int .i64 ax)/\w'.cell? ⟨F.g i,k*3+1,none⟩=some (.slice aA an ac)/\w'.cell? ⟨F.g i,k*3+2,none⟩=some (.bool ag)/\w'.cell? ⟨F.g r,k*3,none⟩=some (.int .i64 bx)/\w'.cell? ⟨F.g r,k*3+1,none⟩=some (.slice bA bn bc)/\w'.cell? ⟨F.g r,k*3+2,none⟩=some (.bool bg)/\w'.cell? ⟨gp,0,none⟩=some (.int .i64 px)/\w'.cell? ⟨gp,1,none⟩=some (.slice pA pn pc)/\w'.cell? ⟨gp,2,none⟩=some (.bool pg)/\w'.cell? ⟨gf,0,none⟩=some (.int .i64 fx)/\w'.cell? ⟨gf,1,none⟩=some (.slice fA fn fc)/\w'.cell? ⟨gf,2,none⟩=some (.bool fg):=fun w' hB=>⟨zl hB tL t3,zl hB mL t4,zl hB aL a0,zl hB aL a1,zl hB aL a2,zl hB bL b0,zl hB bL b1,zl hB bL b2,zl hB pL q0,zl hB pL q1,zl hB pL q2,zl hB fL e0,zl hB fL e1,zl hB fL e2⟩
      refine y8 Q 5 15 20 (zv wr) fun l=>?_;simp only [xDR]
      iterate 5 refine zH ?_
      refine zB ?_;refine tK 6 ?_;refine tK 7 ?_;refine tK 8 ?_;refine tK 9 ?_;refine tK 10 ?_;refine tK 11 ?_;refine tK 12 ?_;refine tK 13 ?_;refine tK 14 ?_;refine tK 15 ?_;refine tK 16 ?_;have bb:=ze j.o.ge;refine HH.ready (rs:=[5,19]) (by kernel_rfl) (by simp) (by kernel_rfl) ?_;refine Zd.cons (o:=_) rfl (fun K hK=>?_) (Zd.cons (o:=_) rfl (fun K hK=>?_) Zd.nil)
      rotate_left
      . skip
        go_simp
        have z:Hid (Blk _ wr.heap.size 58 #[.int .i64 0,.slice none 0 0,.bool false]):=(Blk.new wr 58 #[.int .i64 0,.slice none 0 0,.bool false]).drew;have ab:Hid (wr.heap.size<=wr.heap.size):=uA;refine hK.out _ _ (zm (vi wr _) (Q _)) ?_;clear hK K l;intro l
        try simp only [Act.put,xST]
        refine rK 5 fun K hK=>?_
        go_simp
        go_at_call 40;refine (xB _ _ _ _ _ (HA.o.below l.1.out) (aD.o.below l.1.out) (N1.o.le (by omega)) (N2.o.le (by omega))).mono ?_;rintro e R ⟨v1,rfl,hv,y⟩;have D:=ze hv;clear hv;replace z:=kb_ z y;refine hK.out _ _ (zm (zp y l.1) (Q _)) ?_;clear hK K l;intro l
        try simp only [Act.put,xST]
        clear y;refine rK 17 fun K hK=>?_
        go_simp
        go_at_call 40;refine (xB _ _ _ _ _ (aC.o.below l.1.out) (aB.o.below l.1.out) (N3.o.le (by omega)) (N4.o.le (by omega))).mono ?_;rintro e w2 ⟨v2,rfl,hv,aa⟩;replace D:=ze (D.o.below aa);have ad:=ze hv;clear hv;replace z:=kb_ z aa;refine hK.out _ _ (zm (zp aa l.1) (Q _)) ?_;clear hK K l;intro l
        try simp only [Act.put,xST]
        clear aa;refine rK 18 fun K hK=>?_
        go_simp
        go_at_call 97;refine (zc6 _ _ _ _ _ D.o ad.o (uC (Yo N1.o N2.o) (by omega)) (uC (Yo N3.o N4.o) (by omega))).mono ?_;rintro e w3 ⟨v3,rfl,hv,Y⟩;have af:=ze hv;clear hv;clear D ad;replace z:=kb_ z Y;refine hK.out _ _ (zm (zp Y l.1) (Q _)) ?_;clear hK K l;intro l
        try simp only [Act.put,xST]
        clear Y;have C:=l.1.out;replace j:=ze (Pv.below j.o C);replace u:=ze (Z3.below u.o C);replace B:=ze (Z3.below B.o C);clear C;refine HH.done (by kernel_rfl) ?_;simp only [List.drop_succ_cons,List.drop_zero];clear HA aB aD aC N1 N2 N3 N4 a0 a1 a2 b0 b1 b2 q0 q1 q2 e0 e1 e2 tL mL aL bL pL fL t3 t4 l;have a6:=j.o.ge;obtain ⟨I,M,O,sc,sg,rfl,_,_,_⟩:=af.o.form;have r0:=z.o.cell 0;have r1:=z.o.cell 1;have r2:=z.o.cell 2;obtain ⟨z0,z1,z2⟩:=fq3 z;simp at r0 r1 r2;have aw:Hid (w.heap.size<=wr.heap.size):=by have:=ab.o;have:=bb.o;show _<=_;omega
        go_wp2;go_meet;have ah:=z.o.noDig (X8 _ _ _ _ _);have n1:gp≠wr.heap.size:=by have:=a3.o;have:=ab.o;omega
        have n2:gf≠wr.heap.size:=by have:=a4.o;have:=ab.o;omega
        exact ⟨rfl,wr.heap.size,rfl,aw,zbt z.o af.o,j.o.box Zy aw.o ah,u.o.chg Zy n1 (fun b e=>by subst e;exact ah),B.o.chg Zy n2 (fun b e=>by subst e;exact ah)⟩
      skip
      go_simp
      go_at_call 40;refine (xB _ _ _ _ _ (HA.o.below l.1.out) (aD.o.below l.1.out) (N1.o.le (by omega)) (N2.o.le (by omega))).mono ?_;rintro e R ⟨v1,rfl,hv,y⟩;have D:=ze hv;clear hv;refine hK.out _ _ (zm (zp y l.1) (Q _)) ?_;clear hK K l;intro l
      try simp only [Act.put,xST]
      clear y;refine HH.ready (rs:=[17,19]) (by kernel_rfl) (by simp) (by kernel_rfl) ?_;refine Zd.cons (o:=_) rfl (fun K hK=>?_) (Zd.cons (o:=_) rfl (fun K hK=>?_) Zd.nil)
      rotate_left
      . skip
        go_simp
        have ay:=zf R (.cells #[.int .i64 0,.slice none 0 0,.bool false] 58);have z:Hid (Blk _ R.heap.size 58 #[.int .i64 0,.slice none 0 0,.bool false]):=Blk.new R _ _;have ab:Hid (wr.heap.size<=R.heap.size):=l.1.out.size;replace D:=ze (D.o.below ay);clear ay;refine hK.out _ _ (zm (zds l.1) (Q _)) ?_;clear hK K l;intro l
        try simp only [Act.put,xST]
        refine rK 17 fun K hK=>?_
        go_simp
        go_at_call 40;refine (xB _ _ _ _ _ (aC.o.below l.1.out) (aB.o.below l.1.out) (N3.o.le (by omega)) (N4.o.le (by omega))).mono ?_;rintro e w2 ⟨v2,rfl,hv,aa⟩;replace D:=ze (D.o.below aa);have ad:=ze hv;clear hv;replace z:=kb_ z aa;refine hK.out _ _ (zm (zp aa l.1) (Q _)) ?_;clear hK K l;intro l
        try simp only [Act.put,xST]
        clear aa;refine rK 18 fun K hK=>?_
        go_simp
        go_at_call 97;refine (zc6 _ _ _ _ _ D.o ad.o (uC (Yo N1.o N2.o) (by omega)) (uC (Yo N3.o N4.o) (by omega))).mono ?_;rintro e w3 ⟨v3,rfl,hv,Y⟩;have af:=ze hv;clear hv;clear D ad;replace z:=kb_ z Y;refine hK.out _ _ (zm (zp Y l.1) (Q _)) ?_;clear hK K l;intro l
        try simp only [Act.put,xST]
        clear Y;have C:=l.1.out;replace j:=ze (Pv.below j.o C);replace u:=ze (Z3.below u.o C);replace B:=ze (Z3.below B.o C);clear C;refine HH.done (by kernel_rfl) ?_;simp only [List.drop_succ_cons,List.drop_zero];clear HA aB aD aC N1 N2 N3 N4 a0 a1 a2 b0 b1 b2 q0 q1 q2 e0 e1 e2 tL mL aL bL pL fL t3 t4 l;have a6:=j.o.ge;obtain ⟨I,M,O,sc,sg,rfl,_,_,_⟩:=af.o.form;have r0:=z.o.cell 0;have r1:=z.o.cell 1;have r2:=z.o.cell 2;obtain ⟨z0,z1,z2⟩:=fq3 z;simp at r0 r1 r2;have aw:Hid (w.heap.size<=R.heap.size):=by have:=ab.o;have:=bb.o;show _<=_;omega
        go_wp2;go_meet;have ah:=z.o.noDig (X8 _ _ _ _ _);have n1:gp≠R.heap.size:=by have:=a3.o;have:=ab.o;omega
        have n2:gf≠R.heap.size:=by have:=a4.o;have:=ab.o;omega
        exact ⟨rfl,R.heap.size,rfl,aw,zbt z.o af.o,j.o.box Zy aw.o ah,u.o.chg Zy n1 (fun b e=>by subst e;exact ah),B.o.chg Zy n2 (fun b e=>by subst e;exact ah)⟩
      skip
      go_simp
      go_at_call 40;refine (xB _ _ _ _ _ (aC.o.below l.1.out) (aB.o.below l.1.out) (N3.o.le (by omega)) (N4.o.le (by omega))).mono ?_;rintro e w2 ⟨v2,rfl,hv,aa⟩;replace D:=ze (D.o.below aa);have ad:=ze hv;clear hv;refine hK.out _ _ (zm (zp aa l.1) (Q _)) ?_;clear hK K l;intro l
      try simp only [Act.put,xST]
      clear aa;refine HH.ready (rs:=[18,19]) (by kernel_rfl) (by simp) (by kernel_rfl) ?_;refine Zd.cons (o:=_) rfl (fun K hK=>?_) (Zd.cons (o:=_) rfl (fun K hK=>?_) Zd.nil)
      . skip
        go_simp
        go_at_call 97;refine (zc6 _ _ _ _ _ D.o ad.o (uC (Yo N1.o N2.o) (by omega)) (uC (Yo N3.o N4.o) (by omega))).mono ?_;rintro e w3 ⟨v3,rfl,hv,Y⟩;have af:=ze hv;clear hv;clear D ad;refine hK.out _ _ (zm (zp Y l.1) (Q _)) ?_;clear hK K l;intro l
        try simp only [Act.put,xST]
        clear Y;have C:=l.1.out;replace j:=ze (Pv.below j.o C);replace u:=ze (Z3.below u.o C);replace B:=ze (Z3.below B.o C);clear C;refine rK 19 fun K hK=>?_
        go_simp
        have ay:=zf w3 (.cells #[.int .i64 0,.slice none 0 0,.bool false] 58);clear ay;refine hK.out _ _ (zm (zds l.1) (Q _)) ?_;clear hK K l;intro l
        try simp only [Act.put,xST]
        refine HH.done (by kernel_rfl) ?_;simp only [List.drop_succ_cons,List.drop_zero];clear HA aB aD aC N1 N2 N3 N4 a0 a1 a2 b0 b1 b2 q0 q1 q2 e0 e1 e2 tL mL aL bL pL fL t3 t4 l;have a6:=j.o.ge;obtain ⟨I,M,O,sc,sg,rfl,_,_,_⟩:=af.o.form;go_wp2;go_meet;have hx:=zf w3 (.cells #[.int .i64 I,.slice M O sc,.bool sg] 58);exact ⟨rfl,w3.heap.size,rfl,a6,⟨I,M,O,sc,sg,Blk.new _ _ _,af.o.below hx⟩,j.o.below hx,u.o.below hx,B.o.below hx⟩
      skip
      go_simp
      have ay:=zf w2 (.cells #[.int .i64 0,.slice none 0 0,.bool false] 58);have z:Hid (Blk _ w2.heap.size 58 #[.int .i64 0,.slice none 0 0,.bool false]):=Blk.new w2 _ _;have ab:Hid (wr.heap.size<=w2.heap.size):=l.1.out.size;replace D:=ze (D.o.below ay);replace ad:=ze (ad.o.below ay);clear ay;refine hK.out _ _ (zm (zds l.1) (Q _)) ?_;clear hK K l;intro l
      try simp only [Act.put,xST]
      refine rK 18 fun K hK=>?_
      go_simp
      go_at_call 97;refine (zc6 _ _ _ _ _ D.o ad.o (uC (Yo N1.o N2.o) (by omega)) (uC (Yo N3.o N4.o) (by omega))).mono ?_;rintro e w3 ⟨v3,rfl,hv,Y⟩;have af:=ze hv;clear hv;clear D ad;replace z:=kb_ z Y;refine hK.out _ _ (zm (zp Y l.1) (Q _)) ?_;clear hK K l;intro l
      try simp only [Act.put,xST]
      clear Y;have C:=l.1.out;replace j:=ze (Pv.below j.o C);replace u:=ze (Z3.below u.o C);replace B:=ze (Z3.below B.o C);clear C;refine HH.done (by kernel_rfl) ?_;simp only [List.drop_succ_cons,List.drop_zero];clear HA aB aD aC N1 N2 N3 N4 a0 a1 a2 b0 b1 b2 q0 q1 q2 e0 e1 e2 tL mL aL bL pL fL t3 t4 l;have a6:=j.o.ge;obtain ⟨I,M,O,sc,sg,rfl,_,_,_⟩:=af.o.form;have r0:=z.o.cell 0;have r1:=z.o.cell 1;have r2:=z.o.cell 2;obtain ⟨z0,z1,z2⟩:=fq3 z;simp at r0 r1 r2;have aw:Hid (w.heap.size<=w2.heap.size):=by have:=ab.o;have:=bb.o;show _<=_;omega
      go_wp2;go_meet;have ah:=z.o.noDig (X8 _ _ _ _ _);have n1:gp≠w2.heap.size:=by have:=a3.o;have:=ab.o;omega
      have n2:gf≠w2.heap.size:=by have:=a4.o;have:=ab.o;omega
      exact ⟨rfl,w2.heap.size,rfl,aw,zbt z.o af.o,j.o.box Zy aw.o ah,u.o.chg Zy n1 (fun b e=>by subst e;exact ah),B.o.chg Zy n2 (fun b e=>by subst e;exact ah)⟩
     case rest=>
      clear j u B HA aB aD aC N1 N2 N3 N4 a0 a1 a2 b0 b1 b2 q0 q1 q2 e0 e1 e2 tL mL aL bL pL fL t3 t4 a3 a4;obtain ⟨rfl,gx,rfl,ab,b4,j,u,B⟩:=hcut
      skip
      obtain ⟨xx,xA,xn,xc,xg,a8,bK⟩:=b4.o;obtain ⟨x0,x1,x2,_⟩:=bp3 a8;have xL:=a8.lt;have tL:=j.o.tab.lt;have d4:wc.cell? ⟨F.gt,4,none⟩=some (.int .i64 dx):=by rw [j.o.tab.cell, <- Z.o];rfl
      have d5:wc.cell? ⟨F.gt,5,none⟩=some (.slice dA dn dc):=by rw [j.o.tab.cell, <- Z.o];rfl
      have d6:wc.cell? ⟨F.gt,6,none⟩=some (.bool dg):=by rw [j.o.tab.cell, <- Z.o];rfl
      have bU:=ze bK;have bD:=ze (j.o.chg.num HD.o bz.o);have NX:=ze (zum (Yo (HF.o.cell i k (by omega) V) (HF.o.cell r c (by omega) hc)) (Yo (HF.o.cell i c (by omega) hc) (HF.o.cell r k (by omega) V)));have ND:Hid (T.den≠0):=by have:=HF.o.den;show T.den≠0;omega
      clear a8 bK
      go_upto_region 11 with fail
      have Q:∀ w',Hid (Below wc.heap.size wc w')->w'.cell? ⟨gx,0,none⟩=some (.int .i64 xx)/\w'.cell? ⟨gx,1,none⟩=some (.slice xA xn xc)/\w'.cell? ⟨gx,2,none⟩=some (.bool xg)/\w'.cell? ⟨F.gt,4,none⟩=some (.int .i64 dx)/\w'.cell? ⟨F.gt,5,none⟩=some (.slice dA dn dc)/\w'.cell? ⟨F.gt,6,none⟩=some (.bool dg):=fun w' hB=>⟨zl hB xL x0,zl hB xL x1,zl hB xL x2,zl hB tL d4,zl hB tL d5,zl hB tL d6⟩
      refine Y8 (S:=fun w' =>Hid (Below wc.heap.size wc w')/\w'.cell? ⟨gx,0,none⟩=some (.int .i64 xx)/\w'.cell? ⟨gx,1,none⟩=some (.slice xA xn xc)/\w'.cell? ⟨gx,2,none⟩=some (.bool xg)/\w'.cell? ⟨F.gt,4,none⟩=some (.int .i64 dx)/\w'.cell? ⟨F.gt,5,none⟩=some (.slice dA dn dc)/\w'.cell? ⟨F.gt,6,none⟩=some (.bool dg)) 10 12 7 5 12 rfl (by kernel_rfl) rfl rfl rfl (by kernel_rfl) (by kernel_rfl) (by kernel_rfl) rfl (zm (zv wc) (Q _)) ?_ ?_ fun l=>?_
      . intro _ _ _ _ _ h9;exact h9
      . intro _ _ _ _ h9;exact h9
      simp only [zbb,zui,List.take_succ_cons,List.take_zero]
      iterate 7 refine zH ?_
      refine zB ?_;refine rK 7 fun K hK=>?_
      go_simp
      go_at_call 88;refine (zah _ _ _ _ _ (bU.o.below l.1.out) (bD.o.below l.1.out) ND.out (uC NX.out (by omega)) (HF.o.fden.le (by omega))).mono ?_;rintro e R ⟨v,v',rfl,hv,cj,y⟩;have D:=ze hv;clear hv cj;refine hK.out _ _ (zm (zp y l.1) (Q _)) ?_;clear hK K l;intro l
      try simp only [Act.put,xST]
      clear y;refine tK 8 ?_;refine tK 9 ?_;refine tK 10 ?_;refine tK 11 ?_;have C:=(l.1).out;replace j:=ze (Pv.below j.o C);replace u:=ze (Z3.below u.o C);replace B:=ze (Z3.below B.o C);clear C l Q;refine hdn ?_;simp only [xDR];clear bU bD NX ND x0 x1 x2 d4 d5 d6 xL tL b4 ab;obtain ⟨I,M,O,sc,sg,rfl,_,_,_⟩:=D.o.form;obtain ⟨u0,u1,u2,s0,s1,s2⟩:=(j.o.mat.rows i J).2.slots V;have z0:=(j.o.mat.rows i J).2.frozen (k*3);have z1:=(j.o.mat.rows i J).2.frozen (k*3+1);have z2:=(j.o.mat.rows i J).2.frozen (k*3+2);have E:Hid (Pv w base m L F cs (T.stA r c i (k+1)) (World.numAt R (F.g i) k I M O sc sg)):=j.o.set (by omega) V D.o (fun i' k' _ _=>T.stA_next r c i k bf.o bl.o i' k');have al:=ze (j.o.keepBox (i:=i) (k:=k) (x:=I) (X:=M) (n1:=O) (c:=sc) (ng:=sg) (by omega) u.o aI.o);have cl:=ze (j.o.keepBox (i:=i) (k:=k) (x:=I) (X:=M) (n1:=O) (c:=sc) (ng:=sg) (by omega) B.o bX.o);clear j u B D;go_wp2;go_roundw
      case rel=>exact ⟨k+1,by omega,by go_num,E,al,cl⟩
      case measure=>simp [intOf];omega
  obtain rfl:i=m+1:=by omega
  skip
  have t3:wr.cell? ⟨F.gt,3,none⟩=some (.slice (some ⟨F.gm,0,none⟩) (m+1) F.cm):=by rw [j.o.tab.cell, <- Z.o];rfl
  have t4:=j.o.mat.cell (i:=r) (by omega);have N:Hid (Pv w base m L F cs (T.stB r c 0) wr):=j.o.congr fun i' k' hi' _=>T.stB_start r c m i' k' hi'
  clear j;go_wp2
  go_loopw [98] (PivR w base m L F cs T r c gp) (fun kv _=>L - (intOf kv).toNat)
  case atStart=>exact ⟨0,uB,rfl,N,u⟩
  case round=>
   clear N u t3 t4;obtain ⟨k,hk,rfl,j,u⟩:=hrel
   by_cases V:k<L
   . have bF:(k:Int)<(L:Int):=by omega
     by_cases ao:k=c
     rotate_left
     . have bk:((k:Int) != (c:Int))=true:=by rw [bne_iff_ne];omega
       have bl:=ze ao;obtain ⟨ax,aA,an,ac,ag,a0,a1,a2,ha⟩:=j.o.mat.at_ (i:=r) (k:=k) (by omega) V;rw [T.stB_here] at ha;clear ao;go_wp2_with fail;refine (yF _ _ _ ha).mono ?_;rintro e R ⟨v,rfl,hv,y⟩;replace j:=ze (j.o.below y);replace u:=ze (u.o.below y);clear ha a0 a1 a2 y;obtain ⟨I,M,O,sc,sg,rfl,_,_,_⟩:=hv.form;obtain ⟨u0,u1,u2,s0,s1,s2⟩:=(j.o.mat.rows r (by omega)).2.slots V;have z0:=(j.o.mat.rows r (by omega)).2.frozen (k*3);have z1:=(j.o.mat.rows r (by omega)).2.frozen (k*3+1);have z2:=(j.o.mat.rows r (by omega)).2.frozen (k*3+2);have E:Hid (Pv w base m L F cs (T.stB r c (k+1)) (World.numAt R (F.g r) k I M O sc sg)):=j.o.set (by omega) V hv (fun i' k' _ _=>T.stB_next r c k bl.o i' k');have al:=ze (j.o.keepBox (i:=r) (k:=k) (x:=I) (X:=M) (n1:=O) (c:=sc) (ng:=sg) (by omega) u.o aI.o);clear j u hv;go_wp2;go_roundw
       case rel=>(repeat apply Exists.intro);exact ⟨⟨k+1,by omega,by go_num,E,al⟩,rfl⟩
       case measure=>simp [intOf];omega
     have bk:((k:Int) != (c:Int))=false:=by rw [bne_eq_false_iff_eq];omega
     have N:Hid (Pv w base m L F cs (T.stB r c (k+1)) wr):=j.o.congr fun i' k' _ _=>by subst ao;exact T.stB_col r k i' k'
     clear ao j;go_wp2;go_round
     case rel=>exact ⟨k+1,by omega,by go_num,N,u⟩
     case measure=>simp [intOf];omega
   obtain rfl:L=k:=by omega
   skip
   have d4:wr.cell? ⟨F.gt,4,none⟩=some (.int .i64 dx):=by rw [j.o.tab.cell, <- Z.o];rfl
   have d5:wr.cell? ⟨F.gt,5,none⟩=some (.slice dA dn dc):=by rw [j.o.tab.cell, <- Z.o];rfl
   have d6:wr.cell? ⟨F.gt,6,none⟩=some (.bool dg):=by rw [j.o.tab.cell, <- Z.o];rfl
   have hdn:=j.o.chg.num HD.o bz.o;obtain ⟨u0,u1,u2,s0,s1,s2⟩:=(j.o.mat.rows r (by omega)).2.slots hc;have z0:=(j.o.mat.rows r (by omega)).2.frozen (c*3);have z1:=(j.o.mat.rows r (by omega)).2.frozen (c*3+1);have z2:=(j.o.mat.rows r (by omega)).2.frozen (c*3+2);have E:Hid (Pv w base m L F cs (T.bare r c) (World.numAt wr (F.g r) c dx dA dn dc dg)):=j.o.set (by omega) hc hdn (fun i' k' _ hk' =>T.stB_end r c L i' k' hk');have al:=ze (j.o.keepBox (i:=r) (k:=c) (x:=dx) (X:=dA) (n1:=dn) (c:=dc) (ng:=dg) (by omega) u.o aI.o);clear j u hdn HD
   go_upto_region 23 with fail
   clear d4 d5 d6 u0 u1 u2 s0 s1 s2 z0 z1 z2;obtain ⟨W3,bm⟩:∃ x,x=World.numAt wr (F.g r) c dx dA dn dc dg:=⟨_,rfl⟩;rw [<- bm] at E al;have bV:((wr.setCell ⟨F.g r,c*3,none⟩ (.int .i64 dx)).setCell ⟨F.g r,c*3+1,none⟩ (.slice dA dn dc)).setCell ⟨F.g r,c*3+2,none⟩ (.bool dg)=W3:=bm.symm;rw [bV];clear bV bm;have bJ:0<L - 1:=by omega
   obtain ⟨gb,cb,eb,_,_⟩:=aV.o.1.form (Nat.lt_of_le_of_lt (uB) hr);obtain ⟨go,co,eo,_,_⟩:=aW.o.1.form bJ;have ap:=ze (E.o.own aV.o);have au:=ze (E.o.own aW.o);have t7:W3.cell? ⟨F.gt,7,none⟩=some (.slice (some ⟨gb,0,none⟩) m cb):=by rw [E.o.tab.cell, <- Z.o, <- eb];rfl
   have t8:W3.cell? ⟨F.gt,8,none⟩=some (.slice (some ⟨go,0,none⟩) (L - 1) co):=by rw [E.o.tab.cell, <- Z.o, <- eo];rfl
   have br:gb≠go:=fun e=>bo.o gb (by rw [eb];rfl) (by rw [eo,e];rfl)
   rw [eb] at ap;rw [eo] at au;have b1:W3.cell? ⟨gb,r,none⟩=some (.int .i64 (T.basic r:Nat)):=by rw [ap.o.1.cellAt r (by omega)];exact vr hr
   have o1:W3.cell? ⟨go,c - 1,none⟩=some (.int .i64 (T.other (c - 1):Nat)):=by rw [au.o.1.cellAt (c - 1) (by omega)];exact vr (by omega)
   have z1:=ap.o.1.frozenAt r;have z2:=au.o.1.frozenAt (c - 1);have cq:(c:Int) - 1<((L - 1:Nat):Int):=by omega
   have cu:(1:Int)<=(c:Int):=by omega
   have ck:((c:Int) - 1).toNat=c - 1:=by omega
   have b8:(r:Int)<(m:Int):=by omega
   clear ce b9
   go_region
   generalize aX:((W3.setCell ⟨gb,r,none⟩ (.int .i64 (T.other (c - 1):Nat))).setCell ⟨go,c - 1,none⟩ (.int .i64 (T.basic r:Nat))).drew=W4
   have aT:Hid (Chg (fun b=>b=gb\/b=go) W3 W4):=by
    rw [<- aX];exact Chg.trans (Chg.setCell (S:=fun b=>b=gb\/b=go) (Chg.setCell (S:=fun b=>b=gb\/b=go) (Chg.refl W3) (p:=⟨gb,r,none⟩) (.inl rfl) _) (p:=⟨go,c - 1,none⟩) (.inr rfl) _) (Chg.of_below (S:=fun b=>b=gb\/b=go) (zv _).out) (fun b _ h=>h)
   have bp:Hid (vE W4 base 3 1 F.bv m (yI m (T.pivot r c).basic)):=by
    have h1:=ap.o.stored r (xe (T.other (c - 1):Nat));rw [za7] at h1
    have h2:=h1.chg (Chg.setCell (S:=fun b=>b=go) (Chg.refl _) (p:=⟨go,c - 1,none⟩) rfl (.int .i64 (T.basic r:Nat))) (fun b hb e=>br (by
     have:gb=b:=by simpa [Value.ownBlock] using hb
     rw [this];exact e))
    have h3:=h2.below (zv _).out;rw [aX, <- eb] at h3;exact h3
   have be:Hid (vE W4 base 3 1 F.ov (L - 1) (yI (L - 1) (T.pivot r c).other)):=by
    have h1:=au.o.chg (Chg.setCell (S:=fun b=>b=gb) (Chg.refl _) (p:=⟨gb,r,none⟩) rfl (.int .i64 (T.other (c - 1):Nat))) (fun b hb e=>br (by
     have:go=b:=by simpa [Value.ownBlock] using hb
     rw [this];exact e.symm))
    have h2:=h1.stored (c - 1) (xe (T.basic r:Nat));rw [za7] at h2;have h3:=h2.below (zv _).out;rw [aX, <- eo] at h3;exact h3
   have bB:Hid (gb<w.heap.size):=(aV.o.1.lt gb (by rw [eb];rfl)).2;have bG:Hid (go<w.heap.size):=(aW.o.1.lt go (by rw [eo];rfl)).2
   have hS:∀ b,(b=gb\/b=go)->zO W3 b:=fun b h=>by
    rcases h with rfl | rfl
    . exact ap.o.2 _ rfl
    . exact au.o.2 _ rfl
   have bS:∀ b,(b=gb\/b=go)->∀ i,i<=m->b≠F.g i:=fun b h i hi e=>by
    obtain ⟨bd,k1⟩:=(E.o.mat.rows i (by omega)).2.heap
    rcases h with rfl | rfl
    . obtain ⟨aF,G⟩:=ap.o.heap (b:=b) rfl
      exact xp k1 G (by decide) e.symm
    . obtain ⟨aF,G⟩:=au.o.heap (b:=b) rfl
      exact xp k1 G (by decide) e.symm
   have bR:¬ (F.gm=gb\/F.gm=go):=fun h=>by
    obtain ⟨bd,k1⟩:=E.o.mat.own.heap (b:=F.gm) rfl
    rcases h with h | h
    . obtain ⟨aF,G⟩:=ap.o.heap (b:=gb) rfl
      rw [h] at k1;rw [k1] at G;injection G with G;injection G with _ k3 _;exact absurd k3 (by decide)
    . obtain ⟨aF,G⟩:=au.o.heap (b:=go) rfl
      rw [h] at k1;rw [k1] at G;injection G with G;injection G with _ k3 _;exact absurd k3 (by decide)
   have bT:¬ (F.gt=gb\/F.gt=go):=fun h=>by
    rcases h with h | h
    . obtain ⟨aF,G⟩:=ap.o.heap (b:=gb) rfl
      exact xp E.o.tab G (by decide) h
    . obtain ⟨aF,G⟩:=au.o.heap (b:=go) rfl
      exact xp E.o.tab G (by decide) h
   have aJ:=ze (E.o.anew aT.o bS bR hS (aT.o.blk E.o.tab bT));have ba:=ze (al.o.chg aT.o (fun h=>by have:=bB.o;have:=bG.o;have:=aI.o;omega) hS)
   have bE:Hid (Chg (F.S m) w W4):=Chg.trans (E.o.chg.mono (T:=F.S m) (fun b _ h=>.inr (.inl h))) aT.o (fun b _ h=>by
    rcases h with rfl | rfl
    . exact .inr (.inr (.inl (by rw [eb];rfl)))
    . exact .inr (.inr (.inr (by rw [eo];rfl))))
   clear aX aT ap au E al hS bS bR bT t7 t8 br b1 o1 z1 z2 cq ck b8 bJ aV aW bB bG
   skip
   obtain ⟨qx,qA,qn,qc,qg,ai,ak⟩:=ba.o;obtain ⟨q0,q1,q2,_⟩:=bp3 ai;have ae:Blk W4 F.gt 101 (F.cells m dx dA dn dc dg):=by rw [Z.o];exact aJ.o.tab
   have d4:W4.cell? ⟨F.gt,4,none⟩=some (.int .i64 dx):=by rw [ae.cell];rfl
   have d5:W4.cell? ⟨F.gt,5,none⟩=some (.slice dA dn dc):=by rw [ae.cell];rfl
   have d6:W4.cell? ⟨F.gt,6,none⟩=some (.bool dg):=by rw [ae.cell];rfl
   have z4:=ae.frozen 4;have z5:=ae.frozen 5;have z6:=ae.frozen 6;have bY:zO W4 F.gt:=ae.noDig (zfk (xH bp.o) (xH be.o))
   have bN:gp≠F.gt:=fun e=>by
    have:=aJ.o.oldt;exact xp ai ae (by decide) e
   obtain ⟨W5,a5⟩:∃ x,x=((W4.setCell ⟨F.gt,4,none⟩ (.int .i64 qx)).setCell ⟨F.gt,5,none⟩ (.slice qA qn qc)).setCell ⟨F.gt,6,none⟩ (.bool qg):=⟨_,rfl⟩;have aO:Chg (· =F.gt) W4 W5:=by rw [a5];exact zow
   have av:∀ b,b=F.gt->zO W4 b:=fun b e=>by subst e;exact bY
   have a7:Blk W5 F.gt 101 (F.cells m qx qA qn qc qg):=by rw [a5];exact zn8 ae
   have aj:=ze (aJ.o.anew aO (fun b e i hi e2=>by subst e;exact aJ.o.ntab hi e2) (fun e=>by
    obtain ⟨bd,k1⟩:=aJ.o.mat.own.heap (b:=F.gm) rfl
    exact xp ae k1 (by decide) e.symm) av a7)
   have aK:=ze (ba.o.chg aO bN av)
   have aE:∀ v n xs,vE W4 base 3 1 v n xs->vE W5 base 3 1 v n xs:=fun v n xs h=>h.chg aO (fun b hb e=>by
    obtain ⟨aF,G⟩:=h.heap hb
    exact xp ae G (by decide) e.symm)
   have ar:=ze (aE _ _ _ bp.o);have am:=ze (aE _ _ _ be.o);have az:Hid (Chg (F.S m) w W5):=Chg.trans bE.o aO (fun b _ e=>.inl e);have U:=ze a7;have bi:=ze (aO.num ak av);clear bp be aJ ba bE ae bY av aE aO a7 ai ak
   go_upto_region 25 with fail
   rw [<- a5];clear a5 q0 q1 q2 d4 d5 d6 z4 z5 z6 bN;obtain ⟨cx,cw,cy,ct,cr,ai,ak⟩:=aK.o;obtain ⟨q0,q1,q2,_⟩:=bp3 ai;have HQ:=ze ak
   skip
   have aH:=fun w' (h:Below W5.heap.size W5 w')=>ZD _ _ w' (ak.below h)
   by_cases aG:T.cell r c<0
   rotate_left
   . obtain ⟨sg,bP,cv⟩:∃ sg:Int,zZ (T.cell r c) 0=sg/\¬ sg<0:=by
      unfold zZ;rw [if_neg aG]
      split
      . exact ⟨1,rfl,by omega⟩
      exact ⟨0,rfl,by omega⟩
     rw [bP] at aH;have aU:=zmv (T:=T) (r:=r) (c:=c) aG;have aS:=ze aU;clear ak aG bP aU;go_wp2_with fail;refine (aH _ (xh _)).mono ?_;rintro e R ⟨rfl,y⟩;clear aH q0 q1 q2 ai;have b7:=ze (aj.o.below y);have cc:=ze (ar.o.below y);have ch:=ze (am.o.below y);have cd:=ze (bi.o.below y);have ca:Hid (Chg (F.S m) w R):=Chg.trans az.o (Chg.of_below (S:=F.S m) y) (fun _ _ h=>h);clear y aj aK ar am U HQ az bi;go_wp2
     go_end0
     refine ⟨rfl,zI.of_pv b7.o ?_ (fun i k _ _=>aS.o.2 i k) cc.o ch.o bo.o bM.o bH.o,ca.o⟩;rw [aS.o.1];exact cd.o
   have e:zZ (T.cell r c) 0= -1:=by unfold zZ;rw [if_pos aG]
   rw [e] at aH;have aU:=zom (T:=T) (r:=r) (c:=c) aG;have aS:=ze aU;clear ak aG e aU;go_wp2_with fail;refine (aH _ (xh _)).mono ?_;rintro e R ⟨rfl,y⟩;clear aH q0 q1 q2 ai;replace aj:=ze (aj.o.below y);replace aK:=ze (aK.o.below y);replace ar:=ze (ar.o.below y);replace am:=ze (am.o.below y);replace U:=kb_ U y;replace HQ:=ze (HQ.o.below y);replace az:Hid (Chg (F.S m) w R):=Chg.trans az.o (Chg.of_below (S:=F.S m) y) (fun _ _ h=>h);clear y bi;obtain ⟨qx,qA,qn,qc,qg,ai,ak⟩:=aK.o;obtain ⟨q0,q1,q2,_⟩:=bp3 ai;clear HQ ai;go_wp2_with fail;refine (yF _ _ _ ak).mono ?_;rintro e w2 ⟨v,rfl,hv,y⟩;replace aj:=ze (aj.o.below y);replace ar:=ze (ar.o.below y);replace am:=ze (am.o.below y);replace U:=kb_ U y;replace az:Hid (Chg (F.S m) w w2):=Chg.trans az.o (Chg.of_below (S:=F.S m) y) (fun _ _ h=>h);clear q0 q1 q2 ak y aK;obtain ⟨I,M,O,sc,sg,rfl,_,_,_⟩:=hv.form;have z4:=U.o.frozen 4;have z5:=U.o.frozen 5
   have z6:=U.o.frozen 6;have d4:=U.o.cell 4;have d5:=U.o.cell 5;have d6:=U.o.cell 6
   simp [zG.cells] at d4 d5 d6
   obtain ⟨W7,aZ⟩:∃ x,x=((w2.setCell ⟨F.gt,4,none⟩ (.int .i64 I)).setCell ⟨F.gt,5,none⟩ (.slice M O sc)).setCell ⟨F.gt,6,none⟩ (.bool sg):=⟨_,rfl⟩;have aR:Chg (· =F.gt) w2 W7:=by rw [aZ];exact zow
   have b3:zO w2 F.gt:=U.o.noDig (zfk (xH ar.o) (xH am.o));have av:∀ b,b=F.gt->zO w2 b:=fun b e=>by subst e;exact b3
   have bZ:Blk W7 F.gt 101 (F.cells m I M O sc sg):=by rw [aZ];exact zn8 U.o
   have aQ:=ze (aj.o.anew aR (fun b e i hi e2=>by subst e;exact aj.o.ntab hi e2) (fun e=>by
    obtain ⟨bd,k1⟩:=aj.o.mat.own.heap (b:=F.gm) rfl
    exact xp U.o k1 (by decide) e.symm) av bZ)
   have aE:∀ v n xs,vE w2 base 3 1 v n xs->vE W7 base 3 1 v n xs:=fun v n xs h=>h.chg aR (fun b hb e=>by
    obtain ⟨aF,G⟩:=h.heap hb
    exact xp U.o G (by decide) e.symm)
   have ci:=ze (aE _ _ _ ar.o);have cf:=ze (aE _ _ _ am.o);have b6:Hid (Chg (F.S m) w W7):=Chg.trans az.o aR (fun b _ e=>.inl e);have cg:=ze (aR.num hv av);have cp:Hid (∀ b,F.rows m b->zO W7 b):=fun b ⟨i,hi,e⟩=>by subst e;exact aQ.o.noDig hi
   clear ar am aj az b3 av aE aR bZ hv U
   go_upto_region 27 with fail
   rw [<- aZ];clear aZ d4 d5 d6 z4 z5 z6;obtain ⟨aN,bj⟩:∃ aN,Hid (F.cells m I M O sc sg=aN):=⟨_,rfl⟩;rw [bj.o] at aQ;have t3:W7.cell? ⟨F.gt,3,none⟩=some (.slice (some ⟨F.gm,0,none⟩) (m+1) F.cm):=by rw [aQ.o.tab.cell, <- bj.o];rfl
   go_wp2
   go_loopw [165] (PivD W7 base m L F aN (T.bare r c)) (fun iv _=>m+1 - (intOf iv).toNat)
   case atStart=>exact ⟨0,uB,rfl,aQ.o.congr fun i k _ _=>zog _ i k⟩
   case round=>
    clear aQ t3;obtain ⟨i,hi,rfl,j⟩:=hrel
    by_cases J:i<m+1
    rotate_left
    . obtain rfl:i=m+1:=by omega
      go_wp2
      go_end0
      refine ⟨rfl,zI.of_pv (w0:=W7) (A:=fun i k=> -(T.bare r c i k)) (x:=I) (X:=M) (n:=O) (c:=sc) (ng:=sg) ?_ ?_ ?_ (j.o.own ci.o) (j.o.own cf.o) bo.o bM.o bH.o,b6.o.trans (j.o.chg.mono (T:=F.S m) (fun b _ h=>.inr (.inl h))) (fun _ _ h=>h)⟩
      . rw [bj.o];exact j.o.congr fun i' k' hi' _=>(zuf _ m i' k' hi').symm
      . rw [aS.o.1];exact j.o.chg.num cg.o cp.o
      . exact fun i k _ _=>aS.o.2 i k
    have cn:(i:Int)<(m:Int)+1:=by omega
    have t4:=j.o.mat.cell (i:=i) J;go_wp2
    go_loopw [171] (PivE W7 base m L F aN (T.bare r c) i) (fun kv _=>L - (intOf kv).toNat)
    case atStart=>exact ⟨0,uB,rfl,j⟩
    case round=>
     clear j t4;obtain ⟨k,hk,rfl,j⟩:=hrel
     by_cases V:k<L
     . have bF:(k:Int)<(L:Int):=by omega
       obtain ⟨ax,aA,an,ac,ag,a0,a1,a2,ha⟩:=j.o.mat.at_ (i:=i) (k:=k) J V;rw [zq9] at ha;go_wp2_with fail;refine (yF _ _ _ ha).mono ?_;rintro e w3 ⟨v,rfl,hv,y⟩;replace j:=ze (j.o.below y);clear ha a0 a1 a2 y;obtain ⟨I,M,O,sc,sg,rfl,_,_,_⟩:=hv.form;obtain ⟨u0,u1,u2,s0,s1,s2⟩:=(j.o.mat.rows i J).2.slots V;have z0:=(j.o.mat.rows i J).2.frozen (k*3);have z1:=(j.o.mat.rows i J).2.frozen (k*3+1);have z2:=(j.o.mat.rows i J).2.frozen (k*3+2);have E:Hid (Pv W7 base m L F aN (stD (T.bare r c) i (k+1)) (World.numAt w3 (F.g i) k I M O sc sg)):=j.o.set (by omega) V hv (fun i' k' _ _=>zrk _ i k i' k');clear j hv;go_wp2;go_roundw
       case rel=>first | exact ⟨k+1,by omega,by go_num,E⟩ | ((repeat apply Exists.intro);exact ⟨⟨k+1,by omega,by go_num,E⟩,rfl⟩)
       case measure=>simp [intOf];omega
     obtain rfl:L=k:=by omega
     have N:Hid (Pv W7 base m L F aN (stD (T.bare r c) (i+1) 0) wr):=j.o.congr fun i' k' _ hk' =>zuw _ i L i' k' hk'
     clear j;go_wp2;go_round
     case rel=>exact ⟨i+1,by omega,by go_num,N⟩
     case measure=>simp [intOf];omega
end Go.Proofs.YtobdoblpnanclaaGreatDoor
