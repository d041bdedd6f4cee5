/- Parts of the proof. -/
import Derived.Test.YthbmhkiphmcogaaGreatDoorMe15
import Derived.Test.YthbmhkiphmcogaaGreatDoorMe16
set_option linter.all false
set_option maxRecDepth 100000
set_option maxHeartbeats 32000000
namespace Go.Proofs.YthbmhkiphmcogaaGreatDoor
open Proofs.Tryz Go.RowKit Go.Deep
attribute [local go_sem ↓] Go.wp_at_zero Go.wp_at_succ
def Z3 (q:Rat) (z:Int):Int:=q.num*z.tdiv q.den
theorem zr3 {z y:Int} {M:Nat} (h:len 4294967296 z.natAbs<=M):len 4294967296 (z.tdiv y).natAbs<=M:=by
 rw [Int.natAbs_tdiv]
 exact Nat.le_trans (vI (by omega) (Nat.div_le_self _ _)) h
theorem zee (va vn:Value) (q:Rat) (z:Int) (w:World) (ha:yc w va q) (hn:yb w vn z) (hq:Z9 8388608 q) (hz:len 4294967296 z.natAbs<=33554432):
 Calls Tryz.prog 107 #[va,vn] w (YL w (Z3 q z)):=by
 obtain ⟨u,C,k1,c1,s1,G,B,F,E,I,rfl,ag,ai⟩:=ha
 obtain ⟨D,K,k2,c2,s2,rfl,_,_,_⟩:=hn.form
 have r:=ze ag
 have ah:=ze ai
 have HN:=ze hn
 have al:=ze hq.1
 have am:=ze hq.2
 have HZ:=ze hz
 have HD:Hid ((q.den:Int)≠0):=by have:=q.den_nz;show (q.den:Int)≠0;omega
 obtain ⟨W0,S⟩:∃ x,x=((w.alloc (.cells #[.int .i64 u,.slice C k1 c1,.bool s1,.int .i64 G,.slice B F E,.bool I] 55)).alloc (.cells #[.int .i64 D,.slice K k2 c2,.bool s2] 53)).alloc (.cells #[.int .i64 0,.slice none 0 0,.bool false] 53):=⟨_,rfl⟩
 have X:=((Blk.new w 55 #[.int .i64 u,.slice C k1 c1,.bool s1,.int .i64 G,.slice B F E,.bool I]).alloc (.cells #[.int .i64 D,.slice K k2 c2,.bool s2] 53)).alloc (.cells #[.int .i64 0,.slice none 0 0,.bool false] 53)
 have ad:=(Blk.new (w.alloc (.cells #[.int .i64 u,.slice C k1 c1,.bool s1,.int .i64 G,.slice B F E,.bool I] 55)) 53 #[.int .i64 D,.slice K k2 c2,.bool s2]).alloc (.cells #[.int .i64 0,.slice none 0 0,.bool false] 53)
 have M:=Blk.new ((w.alloc (.cells #[.int .i64 u,.slice C k1 c1,.bool s1,.int .i64 G,.slice B F E,.bool I] 55)).alloc (.cells #[.int .i64 D,.slice K k2 c2,.bool s2] 53)) 53 #[.int .i64 0,.slice none 0 0,.bool false]
 have hW:=ext (ext (zf w (.cells #[.int .i64 u,.slice C k1 c1,.bool s1,.int .i64 G,.slice B F E,.bool I] 55)) (zf _ (.cells #[.int .i64 D,.slice K k2 c2,.bool s2] 53))) (zf _ (.cells #[.int .i64 0,.slice none 0 0,.bool false] 53))
 simp only [World.size_alloc] at ad M
 rw [<- S] at X ad M hW
 have l:=ze X
 have b:=ze M
 have j:=ze hW
 have af:=ze (show W0.heap.size=w.heap.size+3 by rw [S];simp only [World.size_alloc])
 clear ag ai hn hq hz X ad M hW
 go_enter func107,ntmps107
 go_wp2_with fail
 rw [<- S]
 clear S
 refine (zbf _ _ _ _ _ (HN.o.below j.o) (ah.o.below j.o) HD.o HZ.o (Nat.le_trans am.o (by omega))).mono ?_
 rintro e w1 ⟨v,v',rfl,hv,ae,y⟩
 obtain ⟨x3,A3,k3,V,s3,rfl,_,_,_⟩:=hv.form
 obtain ⟨x4,A4,Y,Z,s4,rfl,_,_,_⟩:=ae.form
 replace l:=kb_ l y
 replace b:=kb_ b y
 replace j:=eb_ j y
 replace r:=ze (r.o.below j.o)
 have Q:=ze hv
 have an:Hid (w.heap.size+3<=w1.heap.size):=by have:=af.o;have:=y.size;show _<=_;omega
 clear hv ae y af HN ah
 obtain ⟨W1,ab⟩:∃ x,x=(w1.alloc (.cells #[.int .i64 x3,.slice A3 k3 V,.bool s3] 53)).alloc (.cells #[.int .i64 x4,.slice A4 Y Z,.bool s4] 53):=⟨_,rfl⟩
 have m:=ext (zf w1 (.cells #[.int .i64 x3,.slice A3 k3 V,.bool s3] 53)) (zf _ (.cells #[.int .i64 x4,.slice A4 Y Z,.bool s4] 53))
 have J:=(Blk.new w1 53 #[.int .i64 x3,.slice A3 k3 V,.bool s3]).alloc (.cells #[.int .i64 x4,.slice A4 Y Z,.bool s4] 53)
 rw [<- ab] at m J
 replace l:=kb_ l m
 replace b:=kb_ b m
 replace j:=eb_ j m
 replace r:=ze (r.o.below m)
 replace Q:=ze (Q.o.below m)
 clear m
 go_upto_region 2 with fail
 rw [<- ab]
 clear ab
 have r0:=l.o.cell 0
 have r1:=l.o.cell 1
 have r2:=l.o.cell 2
 have q0:=J.cell 0
 have q1:=J.cell 1
 have q2:=J.cell 2
 simp at r0 r1 r2 q0 q1 q2
 clear J
 go_wp2_with fail
 refine (vq _ _ _ _ _ r.o Q.o (Nat.le_trans al.o (by omega)) (zr3 (Nat.le_trans HZ.o (by omega)))).mono ?_
 rintro e w2 ⟨v2,rfl,aa,ac⟩
 obtain ⟨T,O,N,L,U,rfl,_,_,_⟩:=aa.form
 replace b:=kb_ b ac
 replace j:=eb_ j ac
 clear l r Q r0 r1 r2 q0 q1 q2 ac
 have z0:=b.o.cell 0
 have z1:=b.o.cell 1
 have z2:=b.o.cell 2
 have f0:=b.o.frozen 0
 have f1:=b.o.frozen 1
 have f2:=b.o.frozen 2
 simp at z0 z1 z2
 have R:=ys (x:=T) (A:=O) (k:=N) (c:=L) (ng:=U) b.o
 have e0:=R.cell 0
 have e1:=R.cell 1
 have e2:=R.cell 2
 simp only [World.num] at e0 e1 e2
 simp at e0 e1 e2
 have ak:=ze (zC (x:=T) (A:=O) (k:=N) (c:=L) (ng:=U) aa b.o)
 have aj:=ze (zW (x:=T) (A:=O) (k:=N) (c:=L) (ng:=U) j.o (show w.heap.size<=w.heap.size+1+1 by omega))
 clear R aa
 go_wp2_with fail
 refine bodyPost_ret (v:=.agg #[.int .i64 T,.slice O N L,.bool U]) (by simp [results,results107,go_sem,e0,e1,e2]) rfl ?_
 exact ⟨_,rfl,ak.o,aj.o⟩
def qOf (l:List UInt8):Rat:=(zp l).getD 0
theorem Vw {l:List UInt8} (h:(zp l).isSome=true):zp l=some (qOf l):=by
 obtain ⟨q,b⟩:=Option.isSome_iff_exists.1 h
 rw [b];unfold qOf;rw [b];rfl
def ZN (d:Int) (l:List zR):Nat->Int
 | 0=>d
 | n+1=>ZN d l n*(Rat.divInt ((qOf (l.getD n default).coef).den:Int) (ZN d l n)).num
def zx9 (l:List zR):Prop:=∀ t∈l,(zp t.coef).isSome=true/\Z9 8388608 (qOf t.coef)
structure zgo (bound:List UInt8) (l:List zR):Prop where
 bsome:(zp bound).isSome=true
 blen:Z9 8388608 (qOf bound)
 good:zx9 l
 nlen:∀ n,n<l.length->len 4294967296 (Rat.divInt ((qOf (l.getD n default).coef).den:Int) (ZN ((qOf bound).den:Int) l n)).num.natAbs<=67108864
 fit:∀ n,n<=l.length->Fit (ZN ((qOf bound).den:Int) l n)/\ZN ((qOf bound).den:Int) l n≠0
def zxh (b:Nat) (z:Int) (w:World) (e:Ending) (w' :World):Prop:=∃ v,e= .returned v/\yb w' v z/\zB w' b/\Chg (· =b) w w'
def SclR (w0:World) (b gr gd B:Nat) (tv:Value) (l:List zR) (d:Int) (kv:Value) (wr:World):Prop:=
 ∃ k:Nat,k<=l.length/\kv= .int .i64 k/\Hid (Yo wr gd (ZN d l k))/\Hid (Yo wr gr 0)/\Hid (zB wr b)/\Hid (zk wr B tv l)/\Hid (Chg (· =b) w0 wr)
theorem zB.keepBox {w w' :World} {b g:Nat} {z:Int} (h:zB w b) (hc:Chg (· =b) w w') (hk:Yo w g z):Yo w' g z:=by
 obtain ⟨x,A,n,c,ng,e,j⟩:=hk
 exact ⟨x,A,n,c,ng,h.keepBlk hc e,h.keepN hc j⟩
theorem yh {S:Nat->Prop} {w w1 w2:World} (h:Chg S w w1) (hb:Below w1.heap.size w1 w2):Chg S w w2:=h.trans (Chg.of_below (S:=S) hb) (fun _ _ h=>h)
theorem vm {S:Nat->Prop} {w w1 w2:World} (h:Chg S w w1) (k:Chg S w1 w2):Chg S w w2:=h.trans k (fun _ _ h=>h)
theorem yc.parts {w:World} {x y:Int} {A B:Option Addr} {k c k' c' :Nat} {s t:Bool} {q:Rat} (h:yc w (.agg #[.int .i64 x,.slice A k c,.bool s,.int .i64 y,.slice B k' c',.bool t]) q):
 yb w (.agg #[.int .i64 x,.slice A k c,.bool s]) q.num/\yb w (.agg #[.int .i64 y,.slice B k' c',.bool t]) (q.den:Int):=by
 obtain ⟨r,A',k1,c1,l,z,m,k2,c2,u,e,j,b⟩:=h
 simp only [Value.agg.injEq,Array.mk.injEq,List.cons.injEq,Value.int.injEq,Value.slice.injEq,Value.bool.injEq,and_true,true_and] at e
 obtain ⟨rfl,⟨rfl,rfl,rfl⟩,rfl,rfl,⟨rfl,rfl,rfl⟩,rfl⟩:=e
 exact ⟨j,b⟩
theorem zes (b:Nat) (A:Option Addr) (n c:Nat) (bound:List UInt8) (l:List zR) (w:World) (hB:zB w b) (ht:vr w (.slice A n c) l) (hs:zN bound) (Y:zgo bound l):
 Calls Tryz.prog 106 #[.map (some b),.agg #[.slice A n c,str bound]] w (zxh b (ZN ((qOf bound).den:Int) l l.length) w):=by
 obtain rfl:=ht.len
 have ai:=ht.bound
 have ap:=ze Y
 have HS:=ze hs
 obtain ⟨W0,aE⟩:∃ x,x=(w.alloc (.cells #[.slice A l.length c,str bound] 33)).alloc (.cells #[.int .i64 0,.slice none 0 0,.bool false] 53):=⟨_,rfl⟩
 have j:=ext (zf w (.cells #[.slice A l.length c,str bound] 33)) (zf _ (.cells #[.int .i64 0,.slice none 0 0,.bool false] 53))
 have aD:=(Blk.new w 33 #[.slice A l.length c,str bound]).alloc (.cells #[.int .i64 0,.slice none 0 0,.bool false] 53)
 have ao:=Blk.new (w.alloc (.cells #[.slice A l.length c,str bound] 33)) 53 #[.int .i64 0,.slice none 0 0,.bool false]
 simp only [World.size_alloc] at ao
 rw [<- aE] at j aD ao
 have aP:=ze hB.lt
 have m:=ze (hB.below j)
 have B:=ze (zk.below ht j)
 have aa:=ze aD
 have u:Hid (Yo W0 (w.heap.size+1) 0):=⟨_,_,_,_,_,ao,zlk _ _⟩
 have y:Hid (Chg (· =b) w W0):=Chg.of_below j
 have ax:=fun w' (h:zB w' b) (s:List UInt8) (hs:zN s)=>ZG b ⟨s.toArray⟩ w' h (by rw [<- zm,xR];exact hs)
 simp only [xR] at ax
 have aF:=ze ax
 clear hB ht Y hs j aD ao ax
 go_enter func106,ntmps106
 go_wp2_with fail
 rw [<- aE]
 clear aE
 refine (aF.o _ m.o bound HS.o).mono ?_
 rintro e w1 ⟨v,ok,rfl,⟨x1,A1,k1,c1,s1,y1,R,T,V,X,rfl⟩,Y,hq,af,D⟩
 have ae:=hq _ (Vw ap.o.bsome)
 replace B:=ze (m.o.keepT D B.o)
 replace aa:=ze (m.o.keepBlk D aa.o)
 replace u:=ze (m.o.keepBox D u.o)
 replace y:=ze (vm y.o D)
 replace m:=ze af
 have U:=ze ae
 have aW:Hid (w.heap.size<=w1.heap.size):=y.o.size
 clear af D hq Y ae
 skip
 obtain ⟨W1,au⟩:∃ x,x=(w1.alloc (.cells #[.int .i64 x1,.slice A1 k1 c1,.bool s1,.int .i64 y1,.slice R T V,.bool X] 55)).alloc (.cells #[.int .i64 y1,.slice R T V,.bool X] 53):=⟨_,rfl⟩
 have j:=ext (zf w1 (.cells #[.int .i64 x1,.slice A1 k1 c1,.bool s1,.int .i64 y1,.slice R T V,.bool X] 55)) (zf _ (.cells #[.int .i64 y1,.slice R T V,.bool X] 53))
 have r:=Blk.new (w1.alloc (.cells #[.int .i64 x1,.slice A1 k1 c1,.bool s1,.int .i64 y1,.slice R T V,.bool X] 55)) 53 #[.int .i64 y1,.slice R T V,.bool X]
 simp only [World.size_alloc] at r
 rw [<- au] at j r
 have C:Hid (Yo W1 (w1.heap.size+1) (ZN ((qOf bound).den:Int) l 0)):=⟨_,_,_,_,_,r,U.o.parts.2.below j⟩
 have aC:Hid (w.heap.size+1≠w1.heap.size+1):=by have:=u.o.lt;show _≠_;omega
 replace m:=ze (m.o.below j)
 replace B:=ze (zk.below B.o j)
 replace aa:=kb_ aa j
 replace u:=ze (u.o.below j)
 replace y:=ze (yh y.o j)
 clear j r U
 go_upto_region 3 with fail
 rw [<- au]
 clear au
 have aM:Hid (w.heap.size<=w1.heap.size+1):=by have:=aW.o;show _<=_;omega
 generalize w1.heap.size+1=gd at C aC aM |-
 have r0:=aa.o.cell 0
 simp at r0
 go_wp2_with fail
 obtain ⟨Q,aj⟩:∃ Q,Q=w.heap.size+1:=⟨_,rfl⟩
 rw [<- aj] at u aC |-
 have aX:Hid (w.heap.size<=Q):=by show _<=_;omega
 clear aj r0 aa
 obtain ⟨d,an⟩:∃ d,Hid (((qOf bound).den:Int)=d):=⟨_,rfl⟩
 rw [an.o] at C |-
 go_loopw [25] (SclR w b Q gd w.heap.size (.slice A l.length c) l d) (fun kv _=>l.length - (intOf kv).toNat)
 case atStart=>exact ⟨0,Nat.zero_le _,rfl,C,u,m,B,y⟩
 case round=>
  clear C u m B y
  obtain ⟨k,hk,rfl,C,u,m,B,y⟩:=hrel
  by_cases ah:k<l.length
  rotate_left
  . obtain rfl:k=l.length:=by omega
    obtain ⟨K,M,N,L,dg,r,F⟩:=C.o;have d0:=r.cell 0;have d1:=r.cell 1;have I:=r.cell 2;obtain ⟨zx,zA,zn,zc,zg,E,aV⟩:=u.o;have z0:=E.cell 0;have z1:=E.cell 1;have z2:=E.cell 2;have f0:=E.frozen 0;have f1:=E.frozen 1;have f2:=E.frozen 2;simp at d0 d1 I z0 z1 z2;have al:=ys (x:=K) (A:=M) (k:=N) (c:=L) (ng:=dg) E;have e0:=al.cell 0;have e1:=al.cell 1;have e2:=al.cell 2;simp only [World.num] at e0 e1 e2;simp at e0 e1 e2;have ac:=E.noDig (V1 _ _ _ _ _);have hS:∀ z,z=Q->zZ wr z:=fun z e=>by subst e;exact ac
    have G:=Yl (w:=wr) (g:=Q) (x:=K) (A:=M) (n:=N) (c:=L) (ng:=dg);have aj:=aX.o;have ai:=aP.o;have HV:=ze (zC (x:=K) (A:=M) (k:=N) (c:=L) (ng:=dg) F E);have am:=ze (m.o.chg G (by omega) hS);have ag:Hid (Chg (· =b) w (World.num wr Q K M N L dg)):=y.o.trans G (fun z hz e=>by omega);clear C u m B y r F E aV al ac hS G aj ai;go_wp2_with fail;refine bodyPost_ret (v:=.agg #[.int .i64 K,.slice M N L,.bool dg]) (by simp [results,results106,go_sem,e0,e1,e2]) rfl ?_;exact ⟨_,rfl,by rw [an.o];exact HV.o,am.o,ag.o⟩
  have a0:(k:Int)<(l.length:Int):=by omega
  obtain ⟨ad,eA,aZ,p0,O,aT,aI⟩:=B.o.at_ ah;subst eA;have j:=zf wr (.cells #[str l[k].name,str l[k].coef] 35);have ak:=ze (Blk.new wr 35 #[str l[k].name,str l[k].coef]);replace C:=ze (C.o.below j);replace u:=ze (u.o.below j);replace m:=ze (m.o.below j);replace B:=ze (zk.below B.o j);replace y:=ze (yh y.o j);have aU:=ze aI;have aR:l.getD k default=l[k]:=by simp [List.getD,List.getElem?_eq_getElem ah]
  have aN:=ap.o.good l[k] (List.getElem_mem ah);have HG:=ze aN;have aG:=ze aR;clear j aT aI aR aN
  go_upto_region 6 with fail
  clear p0 O aZ;generalize wr.alloc (.cells #[str l[k].name,str l[k].coef] 35)=WL at ak C u m B y |-;generalize wr.heap.size=gt at ak |-;have O:=ak.o.cell 1;simp at O;go_wp2_with fail;refine (aF.o _ m.o _ aU.o).mono ?_;rintro e w2 ⟨v,ok,rfl,⟨x2,A2,k2,c2,s2,y2,B2,aA,ay,t2,rfl⟩,Y,hq,af,D⟩;have ae:=hq _ (Vw HG.o.1);replace B:=ze (m.o.keepT D B.o);replace C:=ze (m.o.keepBox D C.o);replace u:=ze (m.o.keepBox D u.o);replace y:=ze (vm y.o D);replace m:=ze af;have j:=zf w2 (.cells #[.int .i64 x2,.slice A2 k2 c2,.bool s2,.int .i64 y2,.slice B2 aA ay,.bool t2] 55);have Z:=ze (Blk.new w2 55 #[.int .i64 x2,.slice A2 k2 c2,.bool s2,.int .i64 y2,.slice B2 aA ay,.bool t2]);replace C:=ze (C.o.below j);replace u:=ze (u.o.below j);replace m:=ze (m.o.below j);replace B:=ze (zk.below B.o j);replace y:=ze (yh y.o j);have U:=ze (ae.below j);clear j af D hq Y ae O ak
  go_upto_region 7 with fail
  generalize w2.alloc (.cells #[.int .i64 x2,.slice A2 k2 c2,.bool s2,.int .i64 y2,.slice B2 aA ay,.bool t2] 55)=W2 at Z C u m B y U |-;generalize w2.heap.size=gc at Z |-;have p3:=Z.o.cell 3;have p4:=Z.o.cell 4;have p5:=Z.o.cell 5;obtain ⟨K,M,N,L,dg,r,F⟩:=C.o;have d0:=r.cell 0;have d1:=r.cell 1;have I:=r.cell 2;simp at p3 p4 p5 d0 d1 I;have ab:=ze F;have az:=ap.o.fit k hk;rw [an.o] at az;have aB:=ze az;clear r F az;go_wp2_with fail;refine (Yp _ _ _ _ _ U.o.parts.2 ab.o aB.o.2 (Nat.le_trans HG.o.2.2 (by omega)) (Nat.le_trans aB.o.1 (by omega))).mono ?_;rintro e w3 ⟨v,rfl,hv,J⟩;have j:=J;replace C:=ze (C.o.below j);replace u:=ze (u.o.below j);replace m:=ze (m.o.below j);replace B:=ze (zk.below B.o j);replace y:=ze (yh y.o j);clear j J p3 p4 p5 d0 d1 I Z ab U;obtain ⟨x3,A3,k3,c3,s3,y3,B3,ar,aq,t3,rfl,aK,aY⟩:=hv;have j:=zf w3 (.cells #[.int .i64 x3,.slice A3 k3 c3,.bool s3,.int .i64 y3,.slice B3 ar aq,.bool t3] 55)
  have S:=ze (Blk.new w3 55 #[.int .i64 x3,.slice A3 k3 c3,.bool s3,.int .i64 y3,.slice B3 ar aq,.bool t3]);replace C:=ze (C.o.below j);replace u:=ze (u.o.below j);replace m:=ze (m.o.below j);replace B:=ze (zk.below B.o j);replace y:=ze (yh y.o j);have av:=ze (aK.below j);clear j aK aY
  go_upto_region 8 with fail
  generalize w3.alloc (.cells #[.int .i64 x3,.slice A3 k3 c3,.bool s3,.int .i64 y3,.slice B3 ar aq,.bool t3] 55)=W3 at S C u m B y av |-;generalize w3.heap.size=gq at S |-;have p0:=S.o.cell 0;have O:=S.o.cell 1;have p2:=S.o.cell 2;obtain ⟨K,M,N,L,dg,r,F⟩:=C.o;have d0:=r.cell 0;have d1:=r.cell 1;have I:=r.cell 2;simp at p0 O p2 d0 d1 I;have ab:=ze F;have aw:=ap.o.nlen k ah;rw [an.o,aG.o] at aw;have aQ:=ze aw;clear r F aw;go_wp2_with fail;refine (vq _ _ _ _ _ ab.o av.o (Nat.le_trans aB.o.1 (by omega)) aQ.o).mono ?_;rintro e w4 ⟨v,rfl,hv,J⟩;replace C:=ze (C.o.below J);replace u:=ze (u.o.below J);replace m:=ze (m.o.below J);replace B:=ze (zk.below B.o J);replace y:=ze (yh y.o J);clear J p0 O p2 d0 d1 I S ab av aQ;obtain ⟨x5,A5,k5,c5,s5,rfl,_,_,_⟩:=hv.form;obtain ⟨K,M,N,L,dg,r,F⟩:=C.o;have d0:=r.cell 0;have d1:=r.cell 1;have I:=r.cell 2;have f0:=r.frozen 0;have f1:=r.frozen 1;have f2:=r.frozen 2;simp at d0 d1 I
  have ac:=r.noDig (V1 _ _ _ _ _);have hS:∀ z,z=gd->zZ w4 z:=fun z e=>by subst e;exact ac
  have G:=Yl (w:=w4) (g:=gd) (x:=x5) (A:=A5) (n:=k5) (c:=c5) (ng:=s5);have aS:=aM.o;have ai:=aP.o;have aL:ZN d l (k+1)=ZN d l k*(Rat.divInt ((qOf l[k].coef).den:Int) (ZN d l k)).num:=by rw [<- aG.o];rfl
  have aJ:Hid (Yo (World.num w4 gd x5 A5 k5 c5 s5) gd (ZN d l (k+1))):=by rw [aL];exact zci r hv
  have aH:=ze (u.o.chg G aC.o hS);have am:=ze (m.o.chg G (by omega) hS);have aO:=ze (zk.chg B.o G (fun z hz e=>by omega));have ag:Hid (Chg (· =b) w (World.num w4 gd x5 A5 k5 c5 s5)):=y.o.trans G (fun z hz e=>by omega);clear C u m B y r F hv ac hS G aS ai aL;go_wp2_with fail;go_roundw
  case rel=>first | exact ⟨k+1,by omega,by go_num,aJ,aH,am,aO,ag⟩ | ((repeat apply Exists.intro);exact ⟨⟨k+1,by omega,by go_num,aJ,aH,am,aO,ag⟩,rfl⟩)
  case measure=>simp [intOf];omega
theorem zgx {l:List UInt8} {q:Rat} (h:zp l=some q):Z9 67108864 q:=by
 have b:Z9 50000 q:=(xe.1 h).2.len
 exact ⟨Nat.le_trans b.1 (by omega),Nat.le_trans b.2 (by omega)⟩
def zd6 (b:Nat) (z:Int) (w:World) (e:Ending) (w' :World):Prop:=e= .returned (.int .i64 z)/\zB w' b/\Chg (· =b) w w'
theorem zmd (b:Nat) (l:List UInt8) (w:World) (hB:zB w b) (hs:zN l):Calls Tryz.prog 69 #[.map (some b),str l] w (zd6 b (yG l) w):=by
 have G:=ZG b ⟨l.toArray⟩ w hB (by rw [<- zm,xR];exact hs)
 rw [xR] at G
 have K:=ze G
 clear hB hs G
 go_enter func69,ntmps69
 go_wp2_with fail
 refine K.o.mono ?_
 rintro e w1 ⟨v,ok,rfl,⟨L,N,k1,c1,s1,S,M,Q,O,T,rfl⟩,C,D,I,J⟩
 clear K
 have E:=zf w1 (.cells #[.int .i64 L,.slice N k1 c1,.bool s1,.int .i64 S,.slice M Q O,.bool T] 55)
 have m:=ze (I.below E)
 have j:=ze (yh J E)
 have F:=ze E
 clear I J E
 cases hr:zp l with
 | none=>
   rw [hr] at C;subst C;have B:=ze (show yG l=4 by unfold yG;rw [hr]);clear D hr;go_wp2_with fail;go_ret;exact ⟨by rw [B.o];rfl,m.o,j.o⟩
 | some q=>
   rw [hr] at C;subst C;have u:=fun w' (h:Below w1.heap.size w1 w')=>zal _ q 12 w' ((D q hr).below h) (zgx hr) (by omega) (by omega)
   by_cases y:yo 12 q
   . have B:=ze (show yG l=0 by unfold yG;rw [hr];exact if_pos y)
     rw [decide_eq_true y] at u;have z:=ze u;clear D hr y u;go_wp2_with fail;refine (z.o _ F.o).mono ?_;rintro e R ⟨rfl,r⟩;replace m:=ze (m.o.below r);replace j:=ze (yh j.o r);clear r z F;go_wp2_with fail;go_ret;exact ⟨by rw [B.o];rfl,m.o,j.o⟩
   have B:=ze (show yG l=3 by unfold yG;rw [hr];exact if_neg y)
   rw [decide_eq_false y] at u;have z:=ze u;clear D hr y u;go_wp2_with fail;refine (z.o _ F.o).mono ?_;rintro e R ⟨rfl,r⟩;replace m:=ze (m.o.below r);replace j:=ze (yh j.o r);clear r z F;go_wp2_with fail;go_ret;exact ⟨by rw [B.o];rfl,m.o,j.o⟩
end Go.Proofs.YthbmhkiphmcogaaGreatDoor
namespace Go.Proofs.YthbmhkiphmcogaaGreatDoor
open Proofs.Tryz Go.RowKit
theorem Zo {S:Nat->Prop} (W:World):Hid (Chg S W W.drew):=Chg.of_below (zu W).out
theorem vT {S:Nat->Prop} {W w w' :World} (hb:Below w.heap.size w w') (h:Hid (Chg S W w)):Hid (Chg S W w'):=yh h.out hb
theorem ZY {S:Nat->Prop} {W w w' :World} (hb:Chg S w w') (h:Hid (Chg S W w)):Hid (Chg S W w'):=vm h.out hb
theorem zX {S:Nat->Prop} {W w:World} {p:Addr} {v:Value} (h:Hid (Chg S W w)) (hc:W.cell? p=some v) (hp:¬ S p.block):w.cell? p=some v:=h.out.cell hc hp
structure ziq (names:List (List UInt8)) (s:List UInt8):Prop where
 lt:names.idxOf s<names.length
 lo:∀ i (h:i<names.length),i<names.idxOf s->names[i]<s
 hi:∀ i (h:i<names.length),names.idxOf s<=i->¬ names[i]<s
theorem ziq.at_ {names:List (List UInt8)} {s:List UInt8} (h:ziq names s):names[names.idxOf s]'h.lt=s:=List.getElem_idxOf h.lt
def Va (sc:Int) (l:List zR) (t:Nat):Int:=Z3 (qOf (l.getD t default).coef) sc
def zb8 (names:List (List UInt8)) (l:List zR) (t:Nat):Nat:=names.idxOf (l.getD t default).name
def zv0 (names:List (List UInt8)) (b sc:Int) (l:List zR):Nat->Nat->Int
 | 0=>fun k=>if k=0 then b else 0
 | t+1=>fun k=>if k=1+2*zb8 names l t then -(Va sc l t) else if k=2+2*zb8 names l t then Va sc l t else zv0 names b sc l t k
def xW (r:zQ):Int:=ZN ((qOf r.bound).den:Int) r.terms r.terms.length
def zr9 (names:List (List UInt8)) (r:zQ):Nat->Int:=fun k=>
 if k=2*names.length+1 then 1 else zv0 names (Z3 (qOf r.bound) (xW r)) (xW r) r.terms r.terms.length k
def zt4 (rows:List zQ) (names:List (List UInt8)) (i:Nat):Nat->Int:=if i<rows.length then zr9 names (rows.getD i default) else fun _=>0
def zxz (nn:Nat) (i:Nat):Nat:=2*nn+i
def zux (nn m:Nat) (k:Nat):Nat:=if k<2*nn then k else 2*nn+m
def znr (rows:List zQ) (i:Nat):Int:=xW (rows.getD i default)
def zq7 (rows:List zQ) (names:List (List UInt8)):yE:=⟨1,zt4 rows names,zxz names.length,zux names.length rows.length⟩
structure zwa (names:List (List UInt8)) (r:zQ):Prop where
 ok:zgo r.bound r.terms
 nm:∀ t∈r.terms,ziq names t.name
end Go.Proofs.YthbmhkiphmcogaaGreatDoor
namespace Go.Proofs.YthbmhkiphmcogaaGreatDoor
open Proofs.Tryz Go.RowKit Go.Deep
theorem XL (m:Nat) (f:Nat->Nat):xd m f ++ [.int .i64 (f m:Nat)]=xd (m+1) f:=by
 unfold xd
 rw [List.range_succ,List.map_append]
 rfl
theorem Z8.lt {w:World} {base n:Nat} {v:Value} {f:Nat->Int} (h:Z8 w base v n f):∀ c,v.ownBlock=some c->base<=c/\c<w.heap.size:=by
 obtain ⟨e,b,_⟩:=h
 exact b.1.lt
theorem Z8.heap {w:World} {base n:Nat} {v:Value} {f:Nat->Int} (h:Z8 w base v n f) {c:Nat} (hc:v.ownBlock=some c):∃ cs,w.heap[c]?=some (.cells cs 53 (0,0)):=by
 obtain ⟨e,b,_⟩:=h
 exact b.heap hc
theorem Z8.noDig {w:World} {base n:Nat} {v:Value} {f:Nat->Int} (h:Z8 w base v n f) {c:Nat} (hc:v.ownBlock=some c):zZ w c:=by
 obtain ⟨e,b,_⟩:=h
 exact b.2 c hc
def xT (b:Nat) (rv nv mv bv ov:Value):Array Value:=#[.map (some b),rv,nv,mv,.int .i64 1,.slice none 0 0,.bool false,bv,ov]
structure za4 (w0:World) (b m gt N:Nat) (rv nv:Value) (rows:List zQ) (names:List (List UInt8)) (g:Nat->Nat) (i1 i2 i3 k:Nat) (mv bv ov sv:Value) (cs:Array Value) (w:World):Prop where
 blk:Blk w gt 128 cs
 cnd:Ze cs
 mat:Zv w0.heap.size w mv (2*names.length+2) i1 g (zt4 rows names)
 bas:Zm w w0.heap.size 3 1 bv i2 (xd i2 (zxz names.length))
 oth:Zm w w0.heap.size 3 1 ov k (xd k (zux names.length m))
 scl:Z8 w w0.heap.size sv i3 (znr rows)
 book:zB w b
 rws:zT w w0.heap.size rv rows
 nms:zF w w0.heap.size nv names
 chg:Chg (· =b) w0 w
 sne:∀ j,j<i1->sv.ownBlock≠some (g j)
 one:∀ c,bv.ownBlock=some c->ov.ownBlock≠some c
 lo:w0.heap.size<=gt
 top:N<=w.heap.size
 hb:b<w0.heap.size
 gtN:gt<N
 gN:∀ j,j<i1->g j<N
 oN:∀ c,mv.ownBlock=some c\/bv.ownBlock=some c\/ov.ownBlock=some c\/sv.ownBlock=some c->c<N
section
variable {w0 w w' :World} {b m gt N:Nat} {rv nv:Value} {rows:List zQ} {names:List (List UInt8)} {g:Nat->Nat} {i1 i2 i3 k:Nat} {mv bv ov sv:Value} {cs:Array Value}
theorem za4.far {S:Nat->Prop} (h:za4 w0 b m gt N rv nv rows names g i1 i2 i3 k mv bv ov sv cs w) (hc:Chg S w w') (hS:∀ x,S x->N<=x/\zZ w x):za4 w0 b m gt N rv nv rows names g i1 i2 i3 k mv bv ov sv cs w' :=by
 have y:=h.lo
 have u:=h.gtN
 have r:=h.chg.size
 have l:∀ x,S x->zZ w x:=fun x hx=>(hS x hx).2
 have j:∀ x,S x->N<=x:=fun x hx=>(hS x hx).1
 exact ⟨hc.blk h.blk (fun e=>by have:=j _ e;omega),h.cnd,h.mat.chg hc (fun i hi e=>by have:=j _ e;have:=h.gN i hi;omega) (fun c hc2 e=>by have:=j _ e;have:=h.oN c (.inl hc2);omega) l,
  h.bas.chg hc (fun c hc2 e=>by have:=j _ e;have:=h.oN c (.inr (.inl hc2));omega),h.oth.chg hc (fun c hc2 e=>by have:=j _ e;have:=h.oN c (.inr (.inr (.inl hc2)));omega),
  h.scl.chg hc (fun c hc2 e=>by have:=j _ e;have:=h.oN c (.inr (.inr (.inr hc2)));omega) l,h.book.chg hc (fun e=>by have:=j _ e;have:=h.hb;omega) l,
  h.rws.chg hc (fun x hx e=>by have:=j _ e;omega),h.nms.chg hc (fun x hx e=>by have:=j _ e;omega),h.chg.trans hc (fun x hx e=>by have:=j _ e;omega),
  h.sne,h.one,h.lo,Nat.le_trans h.top hc.size,h.hb,h.gtN,h.gN,h.oN⟩
theorem za4.below (h:za4 w0 b m gt N rv nv rows names g i1 i2 i3 k mv bv ov sv cs w) (hb:Below w.heap.size w w'):za4 w0 b m gt N rv nv rows names g i1 i2 i3 k mv bv ov sv cs w' :=
 h.far (S:=fun _=>False) (Chg.of_below hb) (fun _ h=>h.elim)
theorem za4.read (h:za4 w0 b m gt N rv nv rows names g i1 i2 i3 k mv bv ov sv cs w) (hc:Chg (· =b) w w') (hb:zB w' b):za4 w0 b m gt N rv nv rows names g i1 i2 i3 k mv bv ov sv cs w' :=by
 have j:∀ x,x=b->zZ w x:=fun x e=>by subst e;exact h.book.noDig
 have r:=h.hb
 have l:=h.lo
 exact ⟨hc.blk h.blk (fun e=>by omega),h.cnd,h.mat.chg hc (fun i hi e=>by have:=(h.mat.rows i hi).1;omega) (fun c hc2 e=>by have:=(h.mat.own.1.lt c hc2).1;omega) j,
  h.bas.chg hc (fun c hc2 e=>by have:=(h.bas.1.lt c hc2).1;omega),h.oth.chg hc (fun c hc2 e=>by have:=(h.oth.1.lt c hc2).1;omega),
  h.scl.chg hc (fun c hc2 e=>by have:=(h.scl.lt c hc2).1;omega) j,hb,h.book.keepRows hc h.rws,h.nms.chg hc (fun _ _ e=>by subst e;exact h.book.noCells),vm h.chg hc,
  h.sne,h.one,h.lo,Nat.le_trans h.top hc.size,h.hb,h.gtN,h.gN,h.oN⟩
theorem xP {v:Value} (hg:w.grownBy w' v.ownBlock):Chg (fun b=>v.ownBlock=some b) w w' :=⟨hg.os,hg.tape,hg.output,hg.size,fun k hk hS=>hg.block k hk (fun e=>hS e.symm)⟩
theorem Yq {x:Nat} {cs1 cs2:Array Value} {t1 t2:TypeId} {f1 f2:Nat×Nat} (h1:w.heap[x]?=some (.cells cs1 t1 f1)) (h2:w.heap[x]?=some (.cells cs2 t2 f2)):t1=t2:=by
 rw [h1] at h2
 injection h2 with h2
 injection h2
theorem za4.scales {sv' :Value} (h:za4 w0 b m gt N rv nv rows names g i1 i2 i3 k mv bv ov sv cs w) (hP:Z8 w' w0.heap.size sv' (i3+1) (znr rows)) (hg:w.grownBy w' sv.ownBlock) (hat:sv'.ownBlock=sv.ownBlock\/sv'.ownBlock=some w.heap.size):
 za4 w0 b m gt w'.heap.size rv nv rows names g i1 i2 (i3+1) k mv bv ov sv' cs w' :=by
 have l:=xP hg
 have B:∀ x,sv.ownBlock=some x->zZ w x:=fun x e=>h.scl.noDig e
 have z:∀ x e' v size n xs,e' ≠53->Zm w w0.heap.size e' size v n xs->v.ownBlock=some x->¬ sv.ownBlock=some x:=fun x e' v size n xs hne ho hx hs=>by
  obtain ⟨cs,k1⟩:=h.scl.heap hs
  obtain ⟨G,k2⟩:=ho.heap hx
  exact hne (Yq k2 k1)
 have F:=h.hb
 have E:=h.lo
 have D:=h.top
 have C:=l.size
 have u:∀ x,sv.ownBlock=some x->w0.heap.size<=x:=fun x e=>(h.scl.lt x e).1
 refine ⟨l.blk h.blk (fun e=>?_),h.cnd,h.mat.chg l (fun i hi e=>h.sne i hi e) (fun c hc2 e=>z _ _ _ _ _ _ (by decide) h.mat.own hc2 e) B,
  h.bas.chg l (fun c hc2 e=>z _ _ _ _ _ _ (by decide) h.bas hc2 e),h.oth.chg l (fun c hc2 e=>z _ _ _ _ _ _ (by decide) h.oth hc2 e),hP,
  h.book.chg l (fun e=>by have:=u _ e;omega) B,h.rws.chg l (fun x hx e=>by have:=u _ e;omega),h.nms.chg l (fun x hx e=>by have:=u _ e;omega),
  h.chg.trans l (fun x hx e=>by have:=u _ e;omega),fun j hj e=>?_,h.one,h.lo,Nat.le_refl _,h.hb,by have:=h.gtN;omega,fun j hj=>by have:=h.gN j hj;omega,fun c hc2=>?_⟩
 . obtain ⟨cs,k1⟩:=h.scl.heap e
   exact yX h.blk k1 (by decide) rfl
 . rcases hat with y | y
   . exact h.sne j hj (by rw [<- y];exact e)
   . rw [y] at e;injection e with e;have:=h.gN j hj;omega
 . rcases hc2 with r | r | r | r
   . have:=h.oN c (.inl r);omega
   . have:=h.oN c (.inr (.inl r));omega
   . have:=h.oN c (.inr (.inr (.inl r)));omega
   . exact (hP.lt c r).2
theorem za4.row {mv' :Value} {gl:Nat} {f:Nat->Int} (h:za4 w0 b m gt N rv nv rows names g i1 i2 i3 k mv bv ov sv cs w) (hr:ve w gl (2*names.length+2) (2*names.length+2) f) (hgl:N<=gl) (hf:∀ j,j<2*names.length+2->zt4 rows names i1 j=f j)
 (hown:Zm w' w0.heap.size 119 1 mv' (i1+1) (((List.range i1).map fun i=>zlt (2*names.length+2) (g i)) ++ [zlt (2*names.length+2) gl])) (hg:w.grownBy w' mv.ownBlock):
 za4 w0 b m gt w'.heap.size rv nv rows names (fun i=>if i=i1 then gl else g i) (i1+1) i2 i3 k mv' bv ov sv cs w' :=by
 have l:=xP hg
 have I:=h.lo
 have G:=h.gtN
 have K:=h.hb
 have F:=h.top
 have E:=l.size
 have J:=hr.lt
 have z:∀ x,mv.ownBlock=some x->zZ w x:=fun x e=>h.mat.own.2 x e
 have y:∀ x,mv.ownBlock=some x->w0.heap.size<=x:=fun x e=>(h.mat.own.1.lt x e).1
 have B:∀ x e' v size n xs,e' ≠119->Zm w w0.heap.size e' size v n xs->v.ownBlock=some x->¬ mv.ownBlock=some x:=fun x e' v size n xs hne ho hx hs=>by
  obtain ⟨cs,k1⟩:=h.mat.own.heap hs
  obtain ⟨C,k2⟩:=ho.heap hx
  exact hne (Yq k2 k1)
 have D:=h.mat.push hr (by omega) (fun j hj=>by have:=h.gN j hj;omega) hown hg (fun j hj=>hf j hj)
 refine ⟨l.blk h.blk (fun e=>?_),h.cnd,D,h.bas.chg l (fun c hc2 e=>B _ _ _ _ _ _ (by decide) h.bas hc2 e),h.oth.chg l (fun c hc2 e=>B _ _ _ _ _ _ (by decide) h.oth hc2 e),
  h.scl.chg l (fun c hc2 e=>?_) z,h.book.chg l (fun e=>by have:=y _ e;omega) z,
  h.rws.chg l (fun x hx e=>by have:=y _ e;omega),h.nms.chg l (fun x hx e=>by have:=y _ e;omega),
  h.chg.trans l (fun x hx e=>by have:=y _ e;omega),fun j hj e=>?_,h.one,h.lo,Nat.le_refl _,h.hb,by omega,fun j hj=>?_,fun c hc2=>?_⟩
 . obtain ⟨cs,k1⟩:=h.mat.own.heap e
   exact yX h.blk k1 (by decide) rfl
 . obtain ⟨cs,k1⟩:=h.mat.own.heap e
   obtain ⟨C,k2⟩:=h.scl.heap hc2;exact absurd (Yq k1 k2) (by decide)
 . by_cases u:j=i1
   rotate_left
   . simp only [if_neg u] at e
     exact h.sne j (by omega) e
   simp only [if_pos u] at e
   have:=h.oN _ (.inr (.inr (.inr e)))
   omega
 . by_cases u:j=i1
   . simp only [if_pos u];omega
   simp only [if_neg u];have:=h.gN j (by omega);omega
 . rcases hc2 with r | r | r | r
   . exact (hown.1.lt c r).2
   . have:=h.oN c (.inr (.inl r));omega
   . have:=h.oN c (.inr (.inr (.inl r)));omega
   . have:=h.oN c (.inr (.inr (.inr r)));omega
theorem za4.basic {bv' :Value} (h:za4 w0 b m gt N rv nv rows names g i1 i2 i3 k mv bv ov sv cs w) (hown:Zm w' w0.heap.size 3 1 bv' (i2+1) (xd (i2+1) (zxz names.length))) (hg:w.grownBy w' bv.ownBlock) (hat:bv'.ownBlock=bv.ownBlock\/bv'.ownBlock=some w.heap.size):
 za4 w0 b m gt w'.heap.size rv nv rows names g i1 (i2+1) i3 k mv bv' ov sv cs w' :=by
 have l:=xP hg
 have F:=h.lo
 have E:=h.gtN
 have G:=h.hb
 have D:=h.top
 have C:=l.size
 have z:∀ x,bv.ownBlock=some x->zZ w x:=fun x e=>h.bas.2 x e
 have u:∀ x,bv.ownBlock=some x->w0.heap.size<=x:=fun x e=>(h.bas.1.lt x e).1
 refine ⟨l.blk h.blk (fun e=>?_),h.cnd,h.mat.chg l (fun i hi e=>?_) (fun c hc2 e=>?_) z,hown,h.oth.chg l (fun c hc2 e=>h.one c e hc2),
  h.scl.chg l (fun c hc2 e=>?_) z,h.book.chg l (fun e=>by have:=u _ e;omega) z,
  h.rws.chg l (fun x hx e=>by have:=u _ e;omega),h.nms.chg l (fun x hx e=>by have:=u _ e;omega),
  h.chg.trans l (fun x hx e=>by have:=u _ e;omega),h.sne,fun c hc2 e=>?_,h.lo,Nat.le_refl _,h.hb,by omega,fun j hj=>by have:=h.gN j hj;omega,fun c hc2=>?_⟩
 . obtain ⟨cs,k1⟩:=h.bas.heap e
   exact yX h.blk k1 (by decide) rfl
 . obtain ⟨cs,k1⟩:=h.bas.heap e
   obtain ⟨B,k2⟩:=(h.mat.rows i hi).2.heap;exact absurd (Yq k1 k2) (by decide)
 . obtain ⟨cs,k1⟩:=h.bas.heap e
   obtain ⟨B,k2⟩:=h.mat.own.heap hc2;exact absurd (Yq k1 k2) (by decide)
 . obtain ⟨cs,k1⟩:=h.bas.heap e
   obtain ⟨B,k2⟩:=h.scl.heap hc2;exact absurd (Yq k1 k2) (by decide)
 . rcases hat with y | y
   . exact h.one c (by rw [<- y];exact hc2) e
   . rw [y] at hc2;injection hc2 with hc2;have:=h.oN c (.inr (.inr (.inl e)));omega
 . rcases hc2 with r | r | r | r
   . have:=h.oN c (.inl r);omega
   . exact (hown.1.lt c r).2
   . have:=h.oN c (.inr (.inr (.inl r)));omega
   . have:=h.oN c (.inr (.inr (.inr r)));omega
theorem za4.other {ov' :Value} (h:za4 w0 b m gt N rv nv rows names g i1 i2 i3 k mv bv ov sv cs w) (hown:Zm w' w0.heap.size 3 1 ov' (k+1) (xd (k+1) (zux names.length m))) (hg:w.grownBy w' ov.ownBlock) (hat:ov'.ownBlock=ov.ownBlock\/ov'.ownBlock=some w.heap.size):
 za4 w0 b m gt w'.heap.size rv nv rows names g i1 i2 i3 (k+1) mv bv ov' sv cs w' :=by
 have l:=xP hg
 have F:=h.lo
 have E:=h.gtN
 have G:=h.hb
 have D:=h.top
 have C:=l.size
 have z:∀ x,ov.ownBlock=some x->zZ w x:=fun x e=>h.oth.2 x e
 have u:∀ x,ov.ownBlock=some x->w0.heap.size<=x:=fun x e=>(h.oth.1.lt x e).1
 refine ⟨l.blk h.blk (fun e=>?_),h.cnd,h.mat.chg l (fun i hi e=>?_) (fun c hc2 e=>?_) z,h.bas.chg l (fun c hc2 e=>h.one c hc2 e),hown,
  h.scl.chg l (fun c hc2 e=>?_) z,h.book.chg l (fun e=>by have:=u _ e;omega) z,
  h.rws.chg l (fun x hx e=>by have:=u _ e;omega),h.nms.chg l (fun x hx e=>by have:=u _ e;omega),
  h.chg.trans l (fun x hx e=>by have:=u _ e;omega),h.sne,fun c hc2 e=>?_,h.lo,Nat.le_refl _,h.hb,by omega,fun j hj=>by have:=h.gN j hj;omega,fun c hc2=>?_⟩
 . obtain ⟨cs,k1⟩:=h.oth.heap e
   exact yX h.blk k1 (by decide) rfl
 . obtain ⟨cs,k1⟩:=h.oth.heap e
   obtain ⟨B,k2⟩:=(h.mat.rows i hi).2.heap;exact absurd (Yq k1 k2) (by decide)
 . obtain ⟨cs,k1⟩:=h.oth.heap e
   obtain ⟨B,k2⟩:=h.mat.own.heap hc2;exact absurd (Yq k1 k2) (by decide)
 . obtain ⟨cs,k1⟩:=h.oth.heap e
   obtain ⟨B,k2⟩:=h.scl.heap hc2;exact absurd (Yq k1 k2) (by decide)
 . rcases hat with y | y
   . exact h.one c hc2 (by rw [<- y];exact e)
   . rw [y] at e;injection e with e;have:=h.oN c (.inr (.inl hc2));omega
 . rcases hc2 with r | r | r | r
   . have:=h.oN c (.inl r);omega
   . have:=h.oN c (.inr (.inl r));omega
   . exact (hown.1.lt c r).2
   . have:=h.oN c (.inr (.inr (.inr r)));omega
theorem za4.store (h:za4 w0 b m gt N rv nv rows names g i1 i2 i3 k mv bv ov sv cs w) (j:Nat) {u:Value} (hu:Z0 u):za4 w0 b m gt N rv nv rows names g i1 i2 i3 k mv bv ov sv (cs.setIfInBounds j u) (w.setCell ⟨gt,j,none⟩ u):=by
 have D:=h.lo
 have C:=h.gtN
 have E:=h.hb
 have z:=h.top
 have l:Chg (· =gt) w (w.setCell ⟨gt,j,none⟩ u):=Chg.setCell (S:=(· =gt)) (Chg.refl w) (p:=⟨gt,j,none⟩) rfl _
 have y:∀ x,x=gt->zZ w x:=fun x e=>by subst e;exact h.blk.noDig h.cnd
 have B:(w.setCell ⟨gt,j,none⟩ u).heap.size=w.heap.size:=by simp [World.setCell]
 have r:∀ x e' v size n xs,e' ≠128->Zm w w0.heap.size e' size v n xs->v.ownBlock=some x->¬ x=gt:=fun x e' v size n xs hne ho hx e=>by
  subst e
  obtain ⟨F,k2⟩:=ho.heap hx
  exact yX h.blk k2 (fun e=>hne e.symm) rfl
 refine ⟨h.blk.set_ j u,xI h.cnd hu j,h.mat.chg l (fun i hi e=>?_) (fun c hc2 e=>r _ _ _ _ _ _ (by decide) h.mat.own hc2 e) y,h.bas.chg l (fun c hc2 e=>r _ _ _ _ _ _ (by decide) h.bas hc2 e),
  h.oth.chg l (fun c hc2 e=>r _ _ _ _ _ _ (by decide) h.oth hc2 e),h.scl.chg l (fun c hc2 e=>?_) y,h.book.chg l (fun e=>by omega) y,
  h.rws.chg l (fun x hx e=>by omega),h.nms.chg l (fun x hx e=>by omega),h.chg.trans l (fun x hx e=>by omega),h.sne,h.one,h.lo,by rw [B];exact z,h.hb,h.gtN,h.gN,h.oN⟩
 . obtain ⟨cs,k1⟩:=(h.mat.rows i hi).2.heap
   rw [e] at k1;exact yX h.blk k1 (by decide) rfl
 . subst e
   obtain ⟨cs,k1⟩:=h.scl.heap hc2;exact yX h.blk k1 (by decide) rfl
end
theorem xk {P:Program} {w:World} {o:Oper} {a:Act} {K:Act->World->Prop} {Q:Exit->Act->World->Prop} (s x:Operand) (t:TypeId)
 (ho:o.op= .call { callee:=.builtin .append,args:=#[s,x],argTypes:=#[t,t] })
 (base:Nat) (e:TypeId) (i:TypeInfo) (z:Value) (size bytes:Nat) (ht:P.underlying t=some (.slice e)) (hi:P.info? e=some i) (hz:i.zero=some z)
 (hsize:i.size=size) (hby:i.bytes=bytes) (hzs:z.cells.size=size) (hsz:0<size)
 (v:Value) (n:Nat) (xs:List Value) (hs:a.eval s=v) (hown:Zm w base e size v n xs)
 (ad:Addr) (m c:Nat) (news:List Value) (hx:a.eval x= .slice (some ad) m c) (hl:news.length=m*size) (hm:0<m) (hnews:∀ j u,news[j]?=some u->w.cell? (ad.add j)=some u) (h1:∀ u∈news,u.oneCell' =true)
 (hno:∀ u∈news,Z0 u) (hzn:∀ u∈z.cells,Z0 u) (h63:n+m<=maxLen) (hbytes:(n+m)*bytes<=140737488355328) (hbase:base<=w.heap.size)
 (h:∀ b w',Zm w' base e size b (n+m) (xs ++ news)->w.grownBy w' v.ownBlock->(b.ownBlock=v.ownBlock\/b.ownBlock=some w.heap.size)->K (a.put o.dst b) w'):Oper.wp P o a w K Q:=by
 obtain ⟨b,w',l,y,r,B⟩:=Xk (P:=P) w base t o.type e i z size bytes ht hi hz hsize hby hzs hsz v n xs hown ad m c news hl hm hnews h1 hno hzn h63 hbytes hbase
 unfold Oper.wp execOp
 simp only [ho,resolve,invoke,builtin,Sem.run_bind,Sem.run_pure,Result.andThen_ok,List.map_toArray,List.map_cons,List.map_nil,hs,hx,l]
 exact h b w' y r B
end Go.Proofs.YthbmhkiphmcogaaGreatDoor
namespace Go.Proofs.YthbmhkiphmcogaaGreatDoor
open Proofs.Tryz Go.RowKit Go.Deep
attribute [local go_sem ↓] Go.wp_at_zero Go.wp_at_succ
theorem zof {z:Int}:(zP z 0>0)↔0<z:=by
 unfold zP
 split
 . omega
 split<;>omega
theorem yE.enter_yes {T:yE} {m n:Nat} {but:Int} (h1:(T.other n:Int)≠but) (h2:0<T.cell m (n+1)) (h3:T.enter m but n=0\/T.other n<T.other (T.enter m but n - 1)):T.enter m but (n+1)=n+1:=by
 show (if _ then _ else _)=_
 rw [if_pos ⟨h1,h2,h3⟩]
theorem yE.enter_no {T:yE} {m n:Nat} {but:Int} (h:¬ ((T.other n:Int)≠but/\0<T.cell m (n+1)/\(T.enter m but n=0\/T.other n<T.other (T.enter m but n - 1)))):T.enter m but (n+1)=T.enter m but n:=by
 show (if _ then _ else _)=_
 rw [if_neg h]
def EntR (w0:World) (base m L:Nat) (F:ya) (T:yE) (but:Int) (bv kv:Value) (wr:World):Prop:=
 ∃ k n:Nat,k<=L/\Hid (k=n+1)/\kv= .int .i64 (k:Nat)/\bv= .int .i64 (T.enter m but n:Nat)/\Hid (yi base m L F wr T)/\Hid (Below w0.heap.size w0 wr)
theorem zek (base m L:Nat) (F:ya) (T:yE) (I:Int) (w:World) (hT:yi base m L F w T) (hm:m<=100000) (hL:L<=100000):
 Calls Tryz.prog 114 #[.pointer (some ⟨F.gt,0,none⟩),.int .i64 I] w (zfq w (.int .i64 (T.enter m I (L - 1):Nat))):=by
 have t3:=hT.cell3
 have t1:=hT.cell1
 have t4:=hT.mat.cell (i:=m) (by omega)
 have au:(m:Int)<(m:Int)+1:=by omega
 have l:=ze hT
 have ai:=ze hT.lt2
 clear hT
 go_enter func114,ntmps114
 go_upto_region 2 with fail
 skip
 go_region
 skip
 have ae:=ze (l.o.below (zu w).out)
 have r:=zu w
 clear l t3 t1 t4
 generalize w.drew=W1 at ae r |-
 go_wp2_with fail
 skip
 go_loopw [5,7] (EntR w base m L F T I) (fun _ kv _=>L - (intOf kv).toNat)
 case atStart=>exact ⟨1,0,by have:=ai.o;omega,rfl,rfl,rfl,ae,r⟩
 case round=>
  clear ae r
  obtain ⟨k,n,hn,O,rfl,rfl,l,r⟩:=hrel
  have ap:0<k:=by have:=O.o;omega
  by_cases ah:k<L
  rotate_left
  . have ab:=O.o
    have aj:¬ (k:Int)<(L:Int):=by omega
    obtain rfl:n=L - 1:=by omega
    clear ab;go_wp2_with fail;go_ret;exact ⟨by go_num,r.o⟩
  have aj:(k:Int)<(L:Int):=by omega
  obtain ⟨G,co,eo,y,Z⟩:=l.o.others;have B:=l.o.cell8;rw [eo] at B;have ab:=O.o;have o1:=Z n (by omega);have ek:n=k - 1:=by omega
  have o1:wr.cell? ⟨G,k - 1,none⟩=some (.int .i64 (T.other n:Nat)):=by rw [<- ek];exact o1
  have aB:(k:Int) - 1<((L - 1:Nat):Int):=by omega
  have al:(1:Int)<=(k:Int):=by omega
  have ak:IntKind.i64.wrap ((k:Int) - 1)=(k:Int) - 1:=by rw [IntKind.wrap_i64];omega
  have az:(0:Int)<=(k:Int) - 1:=by omega
  have ao:((k:Int) - 1).toNat=k - 1:=by omega
  have D:=l.o.lt;obtain ⟨ax,aA,an,ac,ag,a0,C,E,ha⟩:=l.o.mat.at_ (i:=m) (k:=k) (by omega) ah;have j:=(l.o.mat.rows m (by omega)).2.lt;have af:=T.enter_le m I n;obtain ⟨b,X⟩:∃ b,Hid (T.enter m I n=b):=⟨_,rfl⟩;rw [X.o] at af |-;have aq:b<k:=by omega
  rw [ab] at ha;have U:=ze ha;clear ha ab ek af
  skip
  by_cases N:(T.other n:Int)=I
  . have d1:((T.other n:Int) != I)=false:=by rw [bne_eq_false_iff_eq];exact N
    have R:Hid (T.enter m I (n+1)=b):=(T.enter_no fun h=>h.1 N).trans X.o;clear N
    go_upto_region 6 with fail
    skip
    refine zt (S:=fun w' =>Hid (Below wr.heap.size wr w')/\w'.cell? ⟨F.gt,8,none⟩=some (.slice (some ⟨G,0,none⟩) (L - 1) co)/\w'.cell? ⟨G,k - 1,none⟩=some (.int .i64 (T.other n:Nat))/\w'.cell? ⟨F.g m,k*3,none⟩=some (.int .i64 ax)/\w'.cell? ⟨F.g m,k*3+1,none⟩=some (.slice aA an ac)/\w'.cell? ⟨F.g m,k*3+2,none⟩=some (.bool ag)) 11 29 40 rfl (by kernel_rfl) (by kernel_rfl) (by kernel_rfl) rfl (zl (zu wr) (fun hB=>⟨zh hB D B,zh hB y o1,zh hB j a0,zh hB j C,zh hB j E⟩)) ?_ (fun hHeld=>?_)
    . intro _ _ _ _ _ V;exact V
    simp only [List.take_succ_cons,List.take_zero]
    iterate 11 refine ye ?_
    refine zU ?_;refine HH.sk 11 ?_;refine HH.sk 12 ?_;refine HH.sk 13 ?_;refine HH.sk 14 ?_;refine HH.sk 15 ?_;refine HH.sk 16 ?_;refine HH.tk 17 ?_;refine HH.tk 18 ?_;refine HH.sk 19 ?_;refine HH.sk 20 ?_;refine HH.sk 21 ?_;refine HH.sk 22 ?_;refine HH.sk 23 ?_;refine HH.sk 24 ?_;refine HH.sk 25 ?_;refine HH.sk 26 ?_;refine HH.sk 27 ?_;refine HH.sk 28 ?_;refine HH.sk 29 ?_;refine HH.sk 30 ?_;refine HH.sk 31 ?_;refine HH.sk 32 ?_;refine HH.sk 33 ?_;refine HH.sk 34 ?_;refine HH.sk 35 ?_;refine HH.sk 36 ?_;refine HH.sk 37 ?_;refine HH.sk 38 ?_;refine HH.sk 39 ?_;have u:=(hHeld.1).out;replace l:=ze (yi.below l.o u);replace r:=eb_ r u;clear u hHeld;refine HH.done (by kernel_rfl) ?_;simp only [List.drop_succ_cons,List.drop_zero];clear B o1 a0 C E U j D y Z;go_wp2_with fail;go_roundw
    case rel=>exact ⟨k+1,n+1,by omega,(ze (by have:=O.o;omega)),by go_num,(by rw [R.o]),l,r⟩
    case measure=>simp [intOf];omega
  have d1:((T.other n:Int) != I)=true:=by rw [bne_iff_ne];exact N
  obtain ⟨sg,ad⟩:∃ sg:Int,zP (T.cell m (n+1)) 0=sg:=⟨_,rfl⟩;have Y:=zof (z:=T.cell m (n+1));rw [ad] at Y;have av:=ze ad;have aa:=fun w' (h:yb w' (.agg #[.int .i64 ax,.slice aA an ac,.bool ag]) (T.cell m (n+1)))=>X4 _ _ w' h
  rw [ad] at aa;clear ad
  by_cases Q:0<T.cell m (n+1)
  rotate_left
  . have d2:decide (sg>0)=false:=by rw [decide_eq_false_iff_not];exact fun h=>Q (Y.1 h)
    have R:Hid (T.enter m I (n+1)=b):=(T.enter_no fun h=>Q h.2.1).trans X.o;clear N Q Y
    go_upto_region 6 with fail
    skip
    refine zt (S:=fun w' =>Hid (Below wr.heap.size wr w')/\w'.cell? ⟨F.gt,8,none⟩=some (.slice (some ⟨G,0,none⟩) (L - 1) co)/\w'.cell? ⟨G,k - 1,none⟩=some (.int .i64 (T.other n:Nat))/\w'.cell? ⟨F.g m,k*3,none⟩=some (.int .i64 ax)/\w'.cell? ⟨F.g m,k*3+1,none⟩=some (.slice aA an ac)/\w'.cell? ⟨F.g m,k*3+2,none⟩=some (.bool ag)) 11 29 40 rfl (by kernel_rfl) (by kernel_rfl) (by kernel_rfl) rfl (zl (zu wr) (fun hB=>⟨zh hB D B,zh hB y o1,zh hB j a0,zh hB j C,zh hB j E⟩)) ?_ (fun hHeld=>?_)
    . intro _ _ _ _ _ V;exact V
    simp only [List.take_succ_cons,List.take_zero]
    iterate 11 refine ye ?_
    refine zU ?_;refine HH.tk 11 ?_;refine HH.tk 12 ?_;refine HH.tk 13 ?_;refine HH.tk 14 ?_;refine HH.rd 15 (fun K hK=>?_);rw [if_pos (by rfl)]
    go_simp
    go_at_call 36;refine (aa _ (U.o.below hHeld.1.out)).mono ?_;rintro e w1 ⟨rfl,J⟩;have M:=hHeld;clear hHeld;refine hK.out _ _ (zl (zr J M.1) (fun hB=>⟨zh hB D B,zh hB y o1,zh hB j a0,zh hB j C,zh hB j E⟩)) (fun hHeld=>?_);clear M hK K
    try simp only [Act.put,xST]
    clear J;refine HH.tk 16 ?_;refine HH.tk 17 ?_;refine HH.tk 18 ?_;refine HH.sk 19 ?_;refine HH.sk 20 ?_;refine HH.sk 21 ?_;refine HH.sk 22 ?_;refine HH.sk 23 ?_;refine HH.sk 24 ?_;refine HH.sk 25 ?_;refine HH.sk 26 ?_;refine HH.sk 27 ?_;refine HH.sk 28 ?_;refine HH.sk 29 ?_;refine HH.sk 30 ?_;refine HH.sk 31 ?_;refine HH.sk 32 ?_;refine HH.sk 33 ?_;refine HH.sk 34 ?_;refine HH.sk 35 ?_;refine HH.sk 36 ?_;refine HH.sk 37 ?_;refine HH.sk 38 ?_;refine HH.sk 39 ?_;have u:=(hHeld.1).out;replace l:=ze (yi.below l.o u);replace r:=eb_ r u;clear u hHeld;refine HH.done (by kernel_rfl) ?_;simp only [List.drop_succ_cons,List.drop_zero];clear B o1 a0 C E U j D y Z;go_wp2_with fail;go_roundw
    case rel=>exact ⟨k+1,n+1,by omega,(ze (by have:=O.o;omega)),by go_num,(by rw [R.o]),l,r⟩
    case measure=>simp [intOf];omega
  have d2:decide (sg>0)=true:=by rw [decide_eq_true_iff];exact Y.2 Q
  by_cases h3:b=0
  . have d3:((b:Int) == 0)=true:=by rw [beq_iff_eq];omega
    have R:Hid (T.enter m I (n+1)=n+1):=T.enter_yes N Q (.inl (X.o.trans h3));clear N Q h3 Y
    go_upto_region 6 with fail
    skip
    refine zt (S:=fun w' =>Hid (Below wr.heap.size wr w')/\w'.cell? ⟨F.gt,8,none⟩=some (.slice (some ⟨G,0,none⟩) (L - 1) co)/\w'.cell? ⟨G,k - 1,none⟩=some (.int .i64 (T.other n:Nat))/\w'.cell? ⟨F.g m,k*3,none⟩=some (.int .i64 ax)/\w'.cell? ⟨F.g m,k*3+1,none⟩=some (.slice aA an ac)/\w'.cell? ⟨F.g m,k*3+2,none⟩=some (.bool ag)) 11 29 40 rfl (by kernel_rfl) (by kernel_rfl) (by kernel_rfl) rfl (zl (zu wr) (fun hB=>⟨zh hB D B,zh hB y o1,zh hB j a0,zh hB j C,zh hB j E⟩)) ?_ (fun hHeld=>?_)
    . intro _ _ _ _ _ V;exact V
    simp only [List.take_succ_cons,List.take_zero]
    iterate 11 refine ye ?_
    refine zU ?_;refine HH.tk 11 ?_;refine HH.tk 12 ?_;refine HH.tk 13 ?_;refine HH.tk 14 ?_;refine HH.rd 15 (fun K hK=>?_);rw [if_pos (by rfl)]
    go_simp
    go_at_call 36;refine (aa _ (U.o.below hHeld.1.out)).mono ?_;rintro e w1 ⟨rfl,J⟩;have M:=hHeld;clear hHeld;refine hK.out _ _ (zl (zr J M.1) (fun hB=>⟨zh hB D B,zh hB y o1,zh hB j a0,zh hB j C,zh hB j E⟩)) (fun hHeld=>?_);clear M hK K
    try simp only [Act.put,xST]
    clear J;refine HH.tk 16 ?_;refine HH.tk 17 ?_;refine HH.tk 18 ?_;refine HH.tk 19 ?_;refine HH.tk 20 ?_;refine HH.tk 21 ?_;refine HH.sk 22 ?_;refine HH.sk 23 ?_;refine HH.sk 24 ?_;refine HH.sk 25 ?_;refine HH.sk 26 ?_;refine HH.sk 27 ?_;refine HH.sk 28 ?_;refine HH.sk 29 ?_;refine HH.sk 30 ?_;refine HH.sk 31 ?_;refine HH.sk 32 ?_;refine HH.sk 33 ?_;refine HH.sk 34 ?_;refine HH.sk 35 ?_;refine HH.sk 36 ?_;refine HH.sk 37 ?_;refine HH.sk 38 ?_;refine HH.tk 39 ?_;have u:=(hHeld.1).out;replace l:=ze (yi.below l.o u);replace r:=eb_ r u;clear u hHeld;refine HH.done (by kernel_rfl) ?_;simp only [List.drop_succ_cons,List.drop_zero];clear B o1 a0 C E U j D y Z;go_wp2_with fail;go_roundw
    case rel=>exact ⟨k+1,n+1,by omega,(ze (by have:=O.o;omega)),by go_num,(by rw [R.o,O.o]),l,r⟩
    case measure=>simp [intOf];omega
  have d3:((b:Int) == 0)=false:=by rw [beq_eq_false_iff_ne];omega
  have o2:=Z (b - 1) (by omega);have J:((b:Int) - 1).toNat=b - 1:=by omega
  have aw:(0:Int)<=(b:Int) - 1:=by omega
  have am:(1:Int)<=(b:Int):=by omega
  have ar:IntKind.i64.wrap ((b:Int) - 1)=(b:Int) - 1:=by rw [IntKind.wrap_i64];omega
  have ay:(b:Int) - 1<((L - 1:Nat):Int):=by omega
  by_cases h4:T.other n<T.other (b - 1)
  . have d4:decide ((T.other n:Int)<(T.other (b - 1):Int))=true:=by rw [decide_eq_true_iff];omega
    have d5:decide (T.other n<T.other (b - 1))=true:=decide_eq_true h4;have R:Hid (T.enter m I (n+1)=n+1):=T.enter_yes N Q (.inr (by rw [X.o];exact h4));clear N Q h3 Y
    go_upto_region 6 with fail
    skip
    refine zt (S:=fun w' =>Hid (Below wr.heap.size wr w')/\w'.cell? ⟨F.gt,8,none⟩=some (.slice (some ⟨G,0,none⟩) (L - 1) co)/\w'.cell? ⟨G,k - 1,none⟩=some (.int .i64 (T.other n:Nat))/\w'.cell? ⟨F.g m,k*3,none⟩=some (.int .i64 ax)/\w'.cell? ⟨F.g m,k*3+1,none⟩=some (.slice aA an ac)/\w'.cell? ⟨F.g m,k*3+2,none⟩=some (.bool ag)/\w'.cell? ⟨G,b - 1,none⟩=some (.int .i64 (T.other (b - 1):Nat))) 11 29 40 rfl (by kernel_rfl) (by kernel_rfl) (by kernel_rfl) rfl (zl (zu wr) (fun hB=>⟨zh hB D B,zh hB y o1,zh hB j a0,zh hB j C,zh hB j E,zh hB y o2⟩)) ?_ (fun hHeld=>?_)
    . intro _ _ _ _ _ V;exact V
    simp only [List.take_succ_cons,List.take_zero]
    iterate 11 refine ye ?_
    refine zU ?_;refine HH.tk 11 ?_;refine HH.tk 12 ?_;refine HH.tk 13 ?_;refine HH.tk 14 ?_;refine HH.rd 15 (fun K hK=>?_);rw [if_pos (by rfl)]
    go_simp
    go_at_call 36;refine (aa _ (U.o.below hHeld.1.out)).mono ?_;rintro e w1 ⟨rfl,J⟩;have M:=hHeld;clear hHeld;refine hK.out _ _ (zl (zr J M.1) (fun hB=>⟨zh hB D B,zh hB y o1,zh hB j a0,zh hB j C,zh hB j E,zh hB y o2⟩)) (fun hHeld=>?_);clear M hK K
    try simp only [Act.put,xST]
    clear J;refine HH.tk 16 ?_;refine HH.tk 17 ?_;refine HH.tk 18 ?_;refine HH.tk 19 ?_;refine HH.tk 20 ?_;refine HH.tk 21 ?_;refine HH.tk 22 ?_;refine HH.tk 23 ?_;refine HH.tk 24 ?_;refine HH.tk 25 ?_;refine HH.tk 26 ?_;refine HH.tk 27 ?_;refine HH.tk 28 ?_;refine HH.tk 29 ?_;refine HH.tk 30 ?_;refine HH.tk 31 ?_;refine HH.tk 32 ?_;refine HH.tk 33 ?_;refine HH.tk 34 ?_;refine HH.tk 35 ?_;refine HH.tk 36 ?_;refine HH.tk 37 ?_;refine HH.tk 38 ?_;refine HH.tk 39 ?_;have u:=(hHeld.1).out;replace l:=ze (yi.below l.o u);replace r:=eb_ r u;clear u hHeld;refine HH.done (by kernel_rfl) ?_;simp only [List.drop_succ_cons,List.drop_zero];clear B o1 a0 C E U j D y Z;go_wp2_with fail;go_roundw
    case rel=>exact ⟨k+1,n+1,by omega,(ze (by have:=O.o;omega)),by go_num,(by rw [R.o,O.o]),l,r⟩
    case measure=>simp [intOf];omega
  have d4:decide ((T.other n:Int)<(T.other (b - 1):Int))=false:=by rw [decide_eq_false_iff_not];omega
  have d5:decide (T.other n<T.other (b - 1))=false:=decide_eq_false h4
  have R:Hid (T.enter m I (n+1)=b):=(T.enter_no fun h=>by
   rcases h.2.2 with h5 | h5
   . exact h3 (X.o.symm.trans h5)
   . rw [X.o] at h5;exact h4 h5).trans X.o
  clear N Q h3 Y
  go_upto_region 6 with fail
  skip
  refine zt (S:=fun w' =>Hid (Below wr.heap.size wr w')/\w'.cell? ⟨F.gt,8,none⟩=some (.slice (some ⟨G,0,none⟩) (L - 1) co)/\w'.cell? ⟨G,k - 1,none⟩=some (.int .i64 (T.other n:Nat))/\w'.cell? ⟨F.g m,k*3,none⟩=some (.int .i64 ax)/\w'.cell? ⟨F.g m,k*3+1,none⟩=some (.slice aA an ac)/\w'.cell? ⟨F.g m,k*3+2,none⟩=some (.bool ag)/\w'.cell? ⟨G,b - 1,none⟩=some (.int .i64 (T.other (b - 1):Nat))) 11 29 40 rfl (by kernel_rfl) (by kernel_rfl) (by kernel_rfl) rfl (zl (zu wr) (fun hB=>⟨zh hB D B,zh hB y o1,zh hB j a0,zh hB j C,zh hB j E,zh hB y o2⟩)) ?_ (fun hHeld=>?_)
  . intro _ _ _ _ _ V;exact V
  simp only [List.take_succ_cons,List.take_zero]
  iterate 11 refine ye ?_
  refine zU ?_;refine HH.tk 11 ?_;refine HH.tk 12 ?_;refine HH.tk 13 ?_;refine HH.tk 14 ?_;refine HH.rd 15 (fun K hK=>?_);rw [if_pos (by rfl)]
  go_simp
  go_at_call 36;refine (aa _ (U.o.below hHeld.1.out)).mono ?_;rintro e w1 ⟨rfl,J⟩;have M:=hHeld;clear hHeld;refine hK.out _ _ (zl (zr J M.1) (fun hB=>⟨zh hB D B,zh hB y o1,zh hB j a0,zh hB j C,zh hB j E,zh hB y o2⟩)) (fun hHeld=>?_);clear M hK K
  try simp only [Act.put,xST]
  clear J;refine HH.tk 16 ?_;refine HH.tk 17 ?_;refine HH.tk 18 ?_;refine HH.tk 19 ?_;refine HH.tk 20 ?_;refine HH.tk 21 ?_;refine HH.tk 22 ?_;refine HH.tk 23 ?_;refine HH.tk 24 ?_;refine HH.tk 25 ?_;refine HH.tk 26 ?_;refine HH.tk 27 ?_;refine HH.tk 28 ?_;refine HH.tk 29 ?_;refine HH.tk 30 ?_;refine HH.tk 31 ?_;refine HH.tk 32 ?_;refine HH.tk 33 ?_;refine HH.tk 34 ?_;refine HH.tk 35 ?_;refine HH.tk 36 ?_;refine HH.tk 37 ?_;refine HH.tk 38 ?_;refine HH.tk 39 ?_;have u:=(hHeld.1).out;replace l:=ze (yi.below l.o u);replace r:=eb_ r u;clear u hHeld;refine HH.done (by kernel_rfl) ?_;simp only [List.drop_succ_cons,List.drop_zero];clear B o1 a0 C E U j D y Z;go_wp2_with fail;go_roundw
  case rel=>exact ⟨k+1,n+1,by omega,(ze (by have:=O.o;omega)),by go_num,(by rw [R.o]),l,r⟩
  case measure=>simp [intOf];omega
end Go.Proofs.YthbmhkiphmcogaaGreatDoor
