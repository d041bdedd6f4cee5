/- Parts of the proof. -/
import Derived.Test.YtobdoblpnanclaaGreatDoorMo16
import Derived.Test.YtobdoblpnanclaaGreatDoorMo18
set_option linter.all false
set_option maxRecDepth 100000
set_option maxHeartbeats 32000000
namespace Go.Proofs.YtobdoblpnanclaaGreatDoor
open Proofs.Tryz Go.RowKit Go.Deep
attribute [local go_sem ↓] Go.wp_at_zero Go.wp_at_succ
def vK (q:Rat) (z:Int):Int:=q.num*z.tdiv q.den
theorem zqy {z y:Int} {M:Nat} (h:len 4294967296 z.natAbs<=M):len 4294967296 (z.tdiv y).natAbs<=M:=by
 rw [Int.natAbs_tdiv]
 exact uC (Yk (by omega) (Nat.div_le_self _ _)) h
theorem zce (va vn:Value) (q:Rat) (z:Int) (w:World) (ha:zV w va q) (hn:zN w vn z) (hq:xJ 8388608 q) (hz:len 4294967296 z.natAbs<=33554432):
 Calls prog 72 #[va,vn] w (ZW w (vK q z)):=by
 obtain ⟨K,u,L,F,J,E,B,G,N,I,rfl,ag,ak⟩:=ha
 obtain ⟨C,O,D,y,M,rfl,_,_,_⟩:=hn.form
 obtain ⟨r,ah,HN⟩:=hz3 ag ak hn
 have al:=ze hq.1
 have ao:=ze hq.2
 have HZ:=ze hz
 have HD:Hid ((q.den:Int)≠0):=by have:=q.den_nz;show (q.den:Int)≠0;omega
 obtain ⟨W0,U⟩:∃ x,x=((w.alloc (.cells #[.int .i64 K,.slice u L F,.bool J,.int .i64 E,.slice B G N,.bool I] 60)).alloc (.cells #[.int .i64 C,.slice O D y,.bool M] 58)).alloc (.cells #[.int .i64 0,.slice none 0 0,.bool false] 58):=⟨_,rfl⟩
 have af:=((Blk.new w 60 #[.int .i64 K,.slice u L F,.bool J,.int .i64 E,.slice B G N,.bool I]).alloc (.cells #[.int .i64 C,.slice O D y,.bool M] 58)).alloc (.cells #[.int .i64 0,.slice none 0 0,.bool false] 58)
 have aa:=(Blk.new (w.alloc (.cells #[.int .i64 K,.slice u L F,.bool J,.int .i64 E,.slice B G N,.bool I] 60)) 58 #[.int .i64 C,.slice O D y,.bool M]).alloc (.cells #[.int .i64 0,.slice none 0 0,.bool false] 58)
 have X:=Blk.new ((w.alloc (.cells #[.int .i64 K,.slice u L F,.bool J,.int .i64 E,.slice B G N,.bool I] 60)).alloc (.cells #[.int .i64 C,.slice O D y,.bool M] 58)) 58 #[.int .i64 0,.slice none 0 0,.bool false]
 have hW:=ext (ext (zf w (.cells #[.int .i64 K,.slice u L F,.bool J,.int .i64 E,.slice B G N,.bool I] 60)) (zf _ (.cells #[.int .i64 C,.slice O D y,.bool M] 58))) (zf _ (.cells #[.int .i64 0,.slice none 0 0,.bool false] 58))
 simp only [World.size_alloc] at aa X
 rw [<- U] at af aa X hW
 obtain ⟨m,b,j⟩:=hz3 af X hW
 have ai:=ze (show W0.heap.size=w.heap.size+3 by rw [U];simp only [World.size_alloc])
 clear ag ak hn hq hz af aa X hW
 go_in
 go_wp2_with fail
 rw [<- U]
 clear U
 refine (zah _ _ _ _ _ (HN.o.below j.o) (ah.o.below j.o) HD.o HZ.o (uC ao.o (by omega))).mono ?_
 rintro e Z ⟨v,v',rfl,hv,aj,Q⟩
 obtain ⟨x3,A3,k3,c3,s3,rfl,_,_,_⟩:=hv.form
 obtain ⟨x4,A4,k4,c4,s4,rfl,_,_,_⟩:=aj.form
 replace m:=kb_ m Q
 replace b:=kb_ b Q
 replace j:=eb_ j Q
 replace r:=ze (r.o.below j.o)
 have HV:=ze hv
 have ap:Hid (w.heap.size+3<=Z.heap.size):=by have:=ai.o;have:=Q.size;show _<=_;omega
 clear hv aj Q ai HN ah
 obtain ⟨W1,ac⟩:∃ x,x=(Z.alloc (.cells #[.int .i64 x3,.slice A3 k3 c3,.bool s3] 58)).alloc (.cells #[.int .i64 x4,.slice A4 k4 c4,.bool s4] 58):=⟨_,rfl⟩
 have l:=ext (zf Z (.cells #[.int .i64 x3,.slice A3 k3 c3,.bool s3] 58)) (zf _ (.cells #[.int .i64 x4,.slice A4 k4 c4,.bool s4] 58))
 have ae:=(Blk.new Z 58 #[.int .i64 x3,.slice A3 k3 c3,.bool s3]).alloc (.cells #[.int .i64 x4,.slice A4 k4 c4,.bool s4] 58)
 rw [<- ac] at l ae
 replace m:=kb_ m l
 replace b:=kb_ b l
 replace j:=eb_ j l
 replace r:=ze (r.o.below l)
 replace HV:=ze (HV.o.below l)
 clear l
 go_upto_region 2 with fail
 rw [<- ac]
 clear ac;obtain ⟨r0,r1,r2,_⟩:=bq3 m;obtain ⟨q0,q1,q2,_⟩:=bp3 ae;clear ae
 go_wp2_with fail
 refine (xB _ _ _ _ _ r.o HV.o (uC al.o (by omega)) (zqy (uC HZ.o (by omega)))).mono ?_
 rintro e w2 ⟨v2,rfl,ad,ab⟩
 obtain ⟨T,R,V,c5,Y,rfl,_,_,_⟩:=ad.form
 replace b:=kb_ b ab
 replace j:=eb_ j ab
 clear m r HV r0 r1 r2 q0 q1 q2 ab;have z0:=b.o.cell 0;have z1:=b.o.cell 1;have z2:=b.o.cell 2;obtain ⟨f0,f1,f2⟩:=fq3 b;simp at z0 z1 z2
 have S:=yg (x:=T) (A:=R) (k:=V) (c:=c5) (ng:=Y) b.o
 have e0:=S.cell 0;have e1:=S.cell 1;have e2:=S.cell 2
 simp only [World.num] at e0 e1 e2
 simp at e0 e1 e2
 have am:=ze (zz (x:=T) (A:=R) (k:=V) (c:=c5) (ng:=Y) ad b.o)
 have an:=ze (zK (x:=T) (A:=R) (k:=V) (c:=c5) (ng:=Y) j.o (show w.heap.size<=w.heap.size+1+1 by omega))
 clear S ad
 go_wp2_with fail
 refine bodyPost_ret (v:=.agg #[.int .i64 T,.slice R V c5,.bool Y]) (by simp [results,results72,go_sem,e0,e1,e2]) rfl ?_
 exact ⟨_,rfl,am.o,an.o⟩
def qOf (l:List UInt8):Rat:=(zj l).getD 0
theorem XD {l:List UInt8} (h:(zj l).isSome=true):zj l=some (qOf l):=by
 obtain ⟨q,b⟩:=Option.isSome_iff_exists.1 h
 rw [b];unfold qOf;rw [b];rfl
def xi (d:Int) (l:List zr):Nat->Int
 | 0=>d
 | n+1=>xi d l n*(Rat.divInt ((qOf (l.getD n default).coef).den:Int) (xi d l n)).num
def zwp (l:List zr):Prop:=∀ t∈l,(zj t.coef).isSome=true/\xJ 8388608 (qOf t.coef)
structure ze7 (bound:List UInt8) (l:List zr):Prop where
 bsome:(zj bound).isSome=true
 blen:xJ 8388608 (qOf bound)
 good:zwp l
 nlen:∀ n,n<l.length->len 4294967296 (Rat.divInt ((qOf (l.getD n default).coef).den:Int) (xi ((qOf bound).den:Int) l n)).num.natAbs<=67108864
 fit:∀ n,n<=l.length->Fit (xi ((qOf bound).den:Int) l n)/\xi ((qOf bound).den:Int) l n≠0
def zv4 (b:Nat) (z:Int) (w:World) (e:Ending) (w' :World):Prop:=∃ v,e= .returned v/\zN w' v z/\zu w' b/\Chg (· =b) w w'
def SclR (w0:World) (b gr gd B:Nat) (tv:Value) (l:List zr) (d:Int) (kv:Value) (wr:World):Prop:=
 ∃ k:Nat,k<=l.length/\kv= .int .i64 k/\Hid (Z3 wr gd (xi d l k))/\Hid (Z3 wr gr 0)/\Hid (zu wr b)/\Hid (zh wr B tv l)/\Hid (Chg (· =b) w0 wr)
theorem zu.keepBox {w w' :World} {b g:Nat} {z:Int} (h:zu w b) (hc:Chg (· =b) w w') (hk:Z3 w g z):Z3 w' g z:=by
 obtain ⟨x,A,n,c,ng,e,j⟩:=hk
 exact ⟨x,A,n,c,ng,h.keepBlk hc e,h.keepN hc j⟩
theorem zD {S:Nat->Prop} {w w1 w2:World} (h:Chg S w w1) (hb:Below w1.heap.size w1 w2):Chg S w w2:=h.trans (Chg.of_below (S:=S) hb) (fun _ _ h=>h)
theorem yp {S:Nat->Prop} {w w1 w2:World} (h:Chg S w w1) (k:Chg S w1 w2):Chg S w w2:=h.trans k (fun _ _ h=>h)
theorem zV.parts {w:World} {x y:Int} {A B:Option Addr} {k c k' c' :Nat} {s t:Bool} {q:Rat} (h:zV w (.agg #[.int .i64 x,.slice A k c,.bool s,.int .i64 y,.slice B k' c',.bool t]) q):
 zN w (.agg #[.int .i64 x,.slice A k c,.bool s]) q.num/\zN w (.agg #[.int .i64 y,.slice B k' c',.bool t]) (q.den:Int):=by
 obtain ⟨E,A',l,F,r,D,z,u,m,C,e,j,b⟩:=h
 simp only [Value.agg.injEq,Array.mk.injEq,List.cons.injEq,Value.int.injEq,Value.slice.injEq,Value.bool.injEq,and_true,true_and] at e
 obtain ⟨rfl,⟨rfl,rfl,rfl⟩,rfl,rfl,⟨rfl,rfl,rfl⟩,rfl⟩:=e
 exact ⟨j,b⟩
theorem zer (b:Nat) (A:Option Addr) (n c:Nat) (bound:List UInt8) (l:List zr) (w:World) (hB:zu w b) (ht:yu w (.slice A n c) l) (hs:yc bound) (T:ze7 bound l):
 Calls prog 71 #[.map (some b),.agg #[.slice A n c,str bound]] w (zv4 b (xi ((qOf bound).den:Int) l l.length) w):=by
 obtain rfl:=ht.len
 have ai:=ht.bound
 have aj:=ze T
 have HS:=ze hs
 obtain ⟨W0,ax⟩:∃ x,x=(w.alloc (.cells #[.slice A l.length c,str bound] 31)).alloc (.cells #[.int .i64 0,.slice none 0 0,.bool false] 58):=⟨_,rfl⟩
 have j:=ext (zf w (.cells #[.slice A l.length c,str bound] 31)) (zf _ (.cells #[.int .i64 0,.slice none 0 0,.bool false] 58))
 have aC:=(Blk.new w 31 #[.slice A l.length c,str bound]).alloc (.cells #[.int .i64 0,.slice none 0 0,.bool false] 58)
 have ag:=Blk.new (w.alloc (.cells #[.slice A l.length c,str bound] 31)) 58 #[.int .i64 0,.slice none 0 0,.bool false]
 simp only [World.size_alloc] at ag
 rw [<- ax] at j aC ag
 have aL:=ze hB.lt
 have m:=ze (hB.below j)
 have B:=ze (zh.below ht j)
 have R:=ze aC
 have r:Hid (Z3 W0 (w.heap.size+1) 0):=⟨_,_,_,_,_,ag,zkd _ _⟩
 have u:Hid (Chg (· =b) w W0):=Chg.of_below j
 have aB:=fun w' (h:zu w' b) (s:List UInt8) (hs:yc s)=>xu b ⟨s.toArray⟩ w' h (by rw [<- zt,yG];exact hs)
 simp only [yG] at aB
 have aK:=ze aB
 clear hB ht T hs j aC ag aB
 go_in
 go_wp2_with fail
 rw [<- ax]
 clear ax
 refine (aK.o _ m.o bound HS.o).mono ?_
 rintro e K ⟨v,ok,rfl,⟨x1,A1,k1,c1,s1,V,S,X,aa,Z,rfl⟩,T,hq,ab,D⟩
 have ae:=hq _ (XD aj.o.bsome)
 replace B:=ze (m.o.keepT D B.o)
 replace R:=ze (m.o.keepBlk D R.o)
 replace r:=ze (m.o.keepBox D r.o)
 replace u:=ze (yp u.o D)
 replace m:=ze ab
 have Q:=ze ae
 have aY:Hid (w.heap.size<=K.heap.size):=u.o.size
 clear ab D hq T ae
 skip
 obtain ⟨W1,aw⟩:∃ x,x=(K.alloc (.cells #[.int .i64 x1,.slice A1 k1 c1,.bool s1,.int .i64 V,.slice S X aa,.bool Z] 60)).alloc (.cells #[.int .i64 V,.slice S X aa,.bool Z] 58):=⟨_,rfl⟩
 have j:=ext (zf K (.cells #[.int .i64 x1,.slice A1 k1 c1,.bool s1,.int .i64 V,.slice S X aa,.bool Z] 60)) (zf _ (.cells #[.int .i64 V,.slice S X aa,.bool Z] 58))
 have C:=Blk.new (K.alloc (.cells #[.int .i64 x1,.slice A1 k1 c1,.bool s1,.int .i64 V,.slice S X aa,.bool Z] 60)) 58 #[.int .i64 V,.slice S X aa,.bool Z]
 simp only [World.size_alloc] at C
 rw [<- aw] at j C
 have y:Hid (Z3 W1 (K.heap.size+1) (xi ((qOf bound).den:Int) l 0)):=⟨_,_,_,_,_,C,Q.o.parts.2.below j⟩
 have ay:Hid (w.heap.size+1≠K.heap.size+1):=by have:=r.o.lt;show _≠_;omega
 replace m:=ze (m.o.below j)
 replace B:=ze (zh.below B.o j)
 replace R:=kb_ R j
 replace r:=ze (r.o.below j)
 replace u:=ze (zD u.o j)
 clear j C Q
 go_upto_region 3 with fail
 rw [<- aw]
 clear aw
 have aR:Hid (w.heap.size<=K.heap.size+1):=by have:=aY.o;show _<=_;omega
 generalize K.heap.size+1=gd at y ay aR |-
 have r0:=(bq1 R).1
 go_wp2_with fail
 obtain ⟨gr,ap⟩:=uQ (w.heap.size+1)
 rw [<- ap] at r ay |-
 have aU:Hid (w.heap.size<=gr):=by show _<=_;omega
 clear ap r0 R
 obtain ⟨d,ao⟩:∃ d,Hid (((qOf bound).den:Int)=d):=⟨_,rfl⟩
 rw [ao.o] at y |-
 go_loopw [25] (SclR w b gr gd w.heap.size (.slice A l.length c) l d) (fun kv _=>l.length - (intOf kv).toNat)
 case atStart=>exact ⟨0,uB,rfl,y,r,m,B,u⟩
 case round=>
  clear y r m B u
  obtain ⟨k,hk,rfl,y,r,m,B,u⟩:=hrel
  by_cases am:k<l.length
  rotate_left
  . obtain rfl:k=l.length:=by omega
    obtain ⟨G,J,dn,I,dg,C,hdn⟩:=y.o;have d0:=C.cell 0;have N:=C.cell 1;have M:=C.cell 2;obtain ⟨zx,zA,zn,zc,zg,L,aT⟩:=r.o;have z0:=L.cell 0;have z1:=L.cell 1;have z2:=L.cell 2;obtain ⟨f0,f1,f2⟩:=fp3 L;simp at d0 N M z0 z1 z2;have ah:=yg (x:=G) (A:=J) (k:=dn) (c:=I) (ng:=dg) L;have e0:=ah.cell 0;have e1:=ah.cell 1;have e2:=ah.cell 2;simp only [World.num] at e0 e1 e2;simp at e0 e1 e2;have af:=L.noDig (X8 _ _ _ _ _);have hS:∀ z,z=gr->zO wr z:=fun z e=>by subst e;exact af
    have E:=Zy (w:=wr) (g:=gr) (x:=G) (A:=J) (n:=dn) (c:=I) (ng:=dg);have ap:=aU.o;have ai:=aL.o;have HV:=ze (zz (x:=G) (A:=J) (k:=dn) (c:=I) (ng:=dg) hdn L);have an:=ze (m.o.chg E (by omega) hS);have ak:Hid (Chg (· =b) w (World.num wr gr G J dn I dg)):=u.o.trans E (fun z hz e=>by omega);clear y r m B u C hdn L aT ah af hS E ap ai;go_wp2_with fail;refine bodyPost_ret (v:=.agg #[.int .i64 G,.slice J dn I,.bool dg]) (by simp [results,results71,go_sem,e0,e1,e2]) rfl ?_;exact ⟨_,rfl,by rw [ao.o];exact HV.o,an.o,ak.o⟩
  have a0:(k:Int)<(l.length:Int):=by omega
  obtain ⟨ad,eA,aS,p0,O,aX,aH⟩:=B.o.at_ am;subst eA;have j:=zf wr (.cells #[str l[k].name,str l[k].coef] 44);have al:=ze (Blk.new wr 44 #[str l[k].name,str l[k].coef]);replace y:=ze (y.o.below j);replace r:=ze (r.o.below j);replace m:=ze (m.o.below j);replace B:=ze (zh.below B.o j);replace u:=ze (zD u.o j);have aV:=ze aH;have aF:=xGD (d:=default) am;have aG:=aj.o.good l[k] (uO am);have HG:=ze aG;have aO:=ze aF;clear j aX aH aF aG
  go_upto_region 6 with fail
  clear p0 O aS;generalize wr.alloc (.cells #[str l[k].name,str l[k].coef] 44)=WL at al y r m B u |-;generalize wr.heap.size=gt at al |-;have O:=al.o.cell 1;simp at O;go_wp2_with fail;refine (aK.o _ m.o _ aV.o).mono ?_;rintro e w2 ⟨v,ok,rfl,⟨x2,A2,k2,c2,s2,y2,B2,ar,aq,t2,rfl⟩,T,hq,ab,D⟩;have ae:=hq _ (XD HG.o.1);replace B:=ze (m.o.keepT D B.o);replace y:=ze (m.o.keepBox D y.o);replace r:=ze (m.o.keepBox D r.o);replace u:=ze (yp u.o D);replace m:=ze ab;have j:=zf w2 (.cells #[.int .i64 x2,.slice A2 k2 c2,.bool s2,.int .i64 y2,.slice B2 ar aq,.bool t2] 60);have Y:=ze (Blk.new w2 60 #[.int .i64 x2,.slice A2 k2 c2,.bool s2,.int .i64 y2,.slice B2 ar aq,.bool t2]);replace y:=ze (y.o.below j);replace r:=ze (r.o.below j);replace m:=ze (m.o.below j);replace B:=ze (zh.below B.o j);replace u:=ze (zD u.o j);have Q:=ze (ae.below j);clear j ab D hq T ae O al
  go_upto_region 7 with fail
  generalize w2.alloc (.cells #[.int .i64 x2,.slice A2 k2 c2,.bool s2,.int .i64 y2,.slice B2 ar aq,.bool t2] 60)=W2 at Y y r m B u Q |-;generalize w2.heap.size=gc at Y |-;have p3:=Y.o.cell 3;have p4:=Y.o.cell 4;have p5:=Y.o.cell 5;obtain ⟨G,J,dn,I,dg,C,hdn⟩:=y.o;obtain ⟨d0,N,M,_⟩:=bp3 C;simp at p3 p4 p5;have ac:=ze hdn;have az:=aj.o.fit k hk;rw [ao.o] at az;have aA:=ze az;clear C hdn az;go_wp2_with fail;refine (Yd _ _ _ _ _ Q.o.parts.2 ac.o aA.o.2 (uC HG.o.2.2 (by omega)) (uC aA.o.1 (by omega))).mono ?_;rintro e w3 ⟨v,rfl,hv,F⟩;have j:=F;replace y:=ze (y.o.below j);replace r:=ze (r.o.below j);replace m:=ze (m.o.below j);replace B:=ze (zh.below B.o j);replace u:=ze (zD u.o j);clear j F p3 p4 p5 d0 N M Y ac Q;obtain ⟨x3,A3,k3,c3,s3,y3,B3,aE,au,t3,rfl,aJ,aW⟩:=hv;have j:=zf w3 (.cells #[.int .i64 x3,.slice A3 k3 c3,.bool s3,.int .i64 y3,.slice B3 aE au,.bool t3] 60)
  have U:=ze (Blk.new w3 60 #[.int .i64 x3,.slice A3 k3 c3,.bool s3,.int .i64 y3,.slice B3 aE au,.bool t3]);replace y:=ze (y.o.below j);replace r:=ze (r.o.below j);replace m:=ze (m.o.below j);replace B:=ze (zh.below B.o j);replace u:=ze (zD u.o j);have av:=ze (aJ.below j);clear j aJ aW
  go_upto_region 8 with fail
  generalize w3.alloc (.cells #[.int .i64 x3,.slice A3 k3 c3,.bool s3,.int .i64 y3,.slice B3 aE au,.bool t3] 60)=W3 at U y r m B u av |-;generalize w3.heap.size=gq at U |-;have p0:=U.o.cell 0;have O:=U.o.cell 1;have p2:=U.o.cell 2;obtain ⟨G,J,dn,I,dg,C,hdn⟩:=y.o;obtain ⟨d0,N,M,_⟩:=bp3 C;simp at p0 O p2;have ac:=ze hdn;have aD:=aj.o.nlen k am;rw [ao.o,aO.o] at aD;have aP:=ze aD;clear C hdn aD;go_wp2_with fail;refine (xB _ _ _ _ _ ac.o av.o (uC aA.o.1 (by omega)) aP.o).mono ?_;rintro e w4 ⟨v,rfl,hv,F⟩;replace y:=ze (y.o.below F);replace r:=ze (r.o.below F);replace m:=ze (m.o.below F);replace B:=ze (zh.below B.o F);replace u:=ze (zD u.o F);clear F p0 O p2 d0 N M U ac av aP;obtain ⟨x5,A5,k5,c5,s5,rfl,_,_,_⟩:=hv.form;obtain ⟨G,J,dn,I,dg,C,hdn⟩:=y.o;have d0:=C.cell 0;have N:=C.cell 1;have M:=C.cell 2;obtain ⟨f0,f1,f2⟩:=fp3 C;simp at d0 N M
  have af:=C.noDig (X8 _ _ _ _ _);have hS:∀ z,z=gd->zO w4 z:=fun z e=>by subst e;exact af
  have E:=Zy (w:=w4) (g:=gd) (x:=x5) (A:=A5) (n:=k5) (c:=c5) (ng:=s5);have aZ:=aR.o;have ai:=aL.o;have aI:xi d l (k+1)=xi d l k*(Rat.divInt ((qOf l[k].coef).den:Int) (xi d l k)).num:=by rw [<- aO.o];rfl
  have aN:Hid (Z3 (World.num w4 gd x5 A5 k5 c5 s5) gd (xi d l (k+1))):=by rw [aI];exact zbt C hv
  have aQ:=ze (r.o.chg E ay.o hS);have an:=ze (m.o.chg E (by omega) hS);have aM:=ze (zh.chg B.o E (fun z hz e=>by omega));have ak:Hid (Chg (· =b) w (World.num w4 gd x5 A5 k5 c5 s5)):=u.o.trans E (fun z hz e=>by omega);clear y r m B u C hdn hv af hS E aZ ai aI;go_wp2;go_roundw
  case rel=>first | exact ⟨k+1,by omega,by go_num,aN,aQ,an,aM,ak⟩ | ((repeat apply Exists.intro);exact ⟨⟨k+1,by omega,by go_num,aN,aQ,an,aM,ak⟩,rfl⟩)
  case measure=>simp [intOf];omega
theorem zgo {l:List UInt8} {q:Rat} (h:zj l=some q):xJ 67108864 q:=by
 have b:xJ 50000 q:=(yA.1 h).2.len
 exact ⟨uC b.1 (by omega),uC b.2 (by omega)⟩
def XX (b:Nat) (z:Int) (w:World) (e:Ending) (w' :World):Prop:=e= .returned (.int .i64 z)/\zu w' b/\Chg (· =b) w w'
theorem zlv (b:Nat) (l:List UInt8) (w:World) (hB:zu w b) (hs:yc l):Calls prog 108 #[.map (some b),str l] w (XX b (xP l) w):=by
 have I:=xu b ⟨l.toArray⟩ w hB (by rw [<- zt,yG];exact hs)
 rw [yG] at I
 have K:=ze I
 clear hB hs I
 go_in
 go_wp2_with fail
 refine K.o.mono ?_
 rintro e G ⟨v,ok,rfl,⟨X,O,M,Q,U,N,V,R,S,T,rfl⟩,E,C,J,L⟩
 clear K
 have D:=zf G (.cells #[.int .i64 X,.slice O M Q,.bool U,.int .i64 N,.slice V R S,.bool T] 60)
 have j:=ze (J.below D)
 have m:=ze (zD L D)
 have F:=ze D
 clear J L D
 cases hr:zj l with
 | none=>
   rw [hr] at E;subst E;have B:=ze (show xP l=4 by unfold xP;rw [hr]);clear C hr;go_wp2;go_ret;exact ⟨by rw [B.o];rfl,j.o,m.o⟩
 | some q=>
   rw [hr] at E;subst E;have u:=fun w' (h:Below G.heap.size G w')=>zfe _ q 12 w' ((C q hr).below h) (zgo hr) (by omega) (by omega)
   by_cases y:yz 12 q
   . have B:=ze (show xP l=0 by unfold xP;rw [hr];exact if_pos y)
     rw [uE y] at u;have z:=ze u;clear C hr y u;go_wp2_with fail;refine (z.o _ F.o).mono ?_;rintro e w2 ⟨rfl,r⟩;replace j:=ze (j.o.below r);replace m:=ze (zD m.o r);clear r z F;go_wp2;go_ret;exact ⟨by rw [B.o];rfl,j.o,m.o⟩
   have B:=ze (show xP l=3 by unfold xP;rw [hr];exact if_neg y)
   rw [uF y] at u;have z:=ze u;clear C hr y u;go_wp2_with fail;refine (z.o _ F.o).mono ?_;rintro e w2 ⟨rfl,r⟩;replace j:=ze (j.o.below r);replace m:=ze (zD m.o r);clear r z F;go_wp2;go_ret;exact ⟨by rw [B.o];rfl,j.o,m.o⟩
theorem xX {S:Nat->Prop} (W:World):Hid (Chg S W W.drew):=Chg.of_below (zv W).out
theorem xU {S:Nat->Prop} {W w w' :World} (hb:Below w.heap.size w w') (h:Hid (Chg S W w)):Hid (Chg S W w'):=zD h.out hb
theorem vz {S:Nat->Prop} {W w w' :World} (hb:Chg S w w') (h:Hid (Chg S W w)):Hid (Chg S W w'):=yp h.out hb
theorem xl {S:Nat->Prop} {W w:World} {p:Addr} {v:Value} (h:Hid (Chg S W w)) (hc:W.cell? p=some v) (hp:¬ S p.block):w.cell? p=some v:=h.out.cell hc hp
structure X2 (names:List (List UInt8)) (s:List UInt8):Prop where
 lt:names.idxOf s<names.length
 lo:∀ i (h:i<names.length),i<names.idxOf s->names[i]<s
 hi:∀ i (h:i<names.length),names.idxOf s<=i->¬ names[i]<s
theorem X2.at_ {names:List (List UInt8)} {s:List UInt8} (h:X2 names s):names[names.idxOf s]'h.lt=s:=List.getElem_idxOf h.lt
def yW (sc:Int) (l:List zr) (t:Nat):Int:=vK (qOf (l.getD t default).coef) sc
def xR (names:List (List UInt8)) (l:List zr) (t:Nat):Nat:=names.idxOf (l.getD t default).name
def VL (names:List (List UInt8)) (b sc:Int) (l:List zr):Nat->Nat->Int
 | 0=>fun k=>if k=0 then b else 0
 | t+1=>fun k=>if k=1+2*xR names l t then -(yW sc l t) else if k=2+2*xR names l t then yW sc l t else VL names b sc l t k
def xC (r:zS):Int:=xi ((qOf r.bound).den:Int) r.terms r.terms.length
def zls (names:List (List UInt8)) (r:zS):Nat->Int:=fun k=>
 if k=2*names.length+1 then 1 else VL names (vK (qOf r.bound) (xC r)) (xC r) r.terms r.terms.length k
def zjq (rows:List zS) (names:List (List UInt8)) (i:Nat):Nat->Int:=if i<rows.length then zls names (rows.getD i default) else fun _=>0
def zwy (nn:Nat) (i:Nat):Nat:=2*nn+i
def zuz (nn m:Nat) (k:Nat):Nat:=if k<2*nn then k else 2*nn+m
def Vu (rows:List zS) (i:Nat):Int:=xC (rows.getD i default)
def Z7 (rows:List zS) (names:List (List UInt8)):zk:=⟨1,zjq rows names,zwy names.length,zuz names.length rows.length⟩
structure ztn (names:List (List UInt8)) (r:zS):Prop where
 ok:ze7 r.bound r.terms
 nm:∀ t∈r.terms,X2 names t.name
theorem YV (m:Nat) (f:Nat->Nat):yI m f ++ [.int .i64 (f m:Nat)]=yI (m+1) f:=by
 unfold yI
 rw [List.range_succ,List.map_append]
 rfl
theorem vR.lt {w:World} {base n:Nat} {v:Value} {f:Nat->Int} (h:vR w base v n f):∀ c,v.ownBlock=some c->base<=c/\c<w.heap.size:=by
 obtain ⟨xs,b,_⟩:=h
 exact b.1.lt
theorem vR.heap {w:World} {base n:Nat} {v:Value} {f:Nat->Int} (h:vR w base v n f) {c:Nat} (hc:v.ownBlock=some c):∃ cs,w.heap[c]?=some (.cells cs 58 (0,0)):=by
 obtain ⟨xs,b,_⟩:=h
 exact b.heap hc
theorem vR.noDig {w:World} {base n:Nat} {v:Value} {f:Nat->Int} (h:vR w base v n f) {c:Nat} (hc:v.ownBlock=some c):zO w c:=by
 obtain ⟨xs,b,_⟩:=h
 exact b.2 c hc
def xf (b:Nat) (rv nv mv bv ov:Value):Array Value:=#[.map (some b),rv,nv,mv,.int .i64 1,.slice none 0 0,.bool false,bv,ov]
structure VI (w0:World) (b m gt N:Nat) (rv nv:Value) (rows:List zS) (names:List (List UInt8)) (g:Nat->Nat) (i1 i2 i3 k:Nat) (mv bv ov sv:Value) (cs:Array Value) (w:World):Prop where
 blk:Blk w gt 101 cs
 cnd:vD cs
 mat:vF w0.heap.size w mv (2*names.length+2) i1 g (zjq rows names)
 bas:vE w w0.heap.size 3 1 bv i2 (yI i2 (zwy names.length))
 oth:vE w w0.heap.size 3 1 ov k (yI k (zuz names.length m))
 scl:vR w w0.heap.size sv i3 (Vu rows)
 book:zu w b
 rws:zR w w0.heap.size rv rows
 nms:zT w w0.heap.size nv names
 chg:Chg (· =b) w0 w
 sne:∀ j,j<i1->sv.ownBlock≠some (g j)
 one:∀ c,bv.ownBlock=some c->ov.ownBlock≠some c
 lo:w0.heap.size<=gt
 top:N<=w.heap.size
 hb:b<w0.heap.size
 gtN:gt<N
 gN:∀ j,j<i1->g j<N
 oN:∀ c,mv.ownBlock=some c\/bv.ownBlock=some c\/ov.ownBlock=some c\/sv.ownBlock=some c->c<N
section
variable {w0 w w' :World} {b m gt N:Nat} {rv nv:Value} {rows:List zS} {names:List (List UInt8)} {g:Nat->Nat} {i1 i2 i3 k:Nat} {mv bv ov sv:Value} {cs:Array Value}
theorem VI.far {S:Nat->Prop} (h:VI w0 b m gt N rv nv rows names g i1 i2 i3 k mv bv ov sv cs w) (hc:Chg S w w') (hS:∀ x,S x->N<=x/\zO w x):VI w0 b m gt N rv nv rows names g i1 i2 i3 k mv bv ov sv cs w' :=by
 have u:=h.lo
 have r:=h.gtN
 have y:=h.chg.size
 have l:∀ x,S x->zO w x:=fun x hx=>(hS x hx).2
 have j:∀ x,S x->N<=x:=fun x hx=>(hS x hx).1
 exact ⟨hc.blk h.blk (fun e=>by have:=j _ e;omega),h.cnd,h.mat.chg hc (fun i hi e=>by have:=j _ e;have:=h.gN i hi;omega) (fun c hc2 e=>by have:=j _ e;have:=h.oN c (.inl hc2);omega) l,
  h.bas.chg hc (fun c hc2 e=>by have:=j _ e;have:=h.oN c (.inr (.inl hc2));omega),h.oth.chg hc (fun c hc2 e=>by have:=j _ e;have:=h.oN c (.inr (.inr (.inl hc2)));omega),
  h.scl.chg hc (fun c hc2 e=>by have:=j _ e;have:=h.oN c (.inr (.inr (.inr hc2)));omega) l,h.book.chg hc (fun e=>by have:=j _ e;have:=h.hb;omega) l,
  h.rws.chg hc (fun x hx e=>by have:=j _ e;omega),h.nms.chg hc (fun x hx e=>by have:=j _ e;omega),h.chg.trans hc (fun x hx e=>by have:=j _ e;omega),
  h.sne,h.one,h.lo,uC h.top hc.size,h.hb,h.gtN,h.gN,h.oN⟩
theorem VI.below (h:VI w0 b m gt N rv nv rows names g i1 i2 i3 k mv bv ov sv cs w) (hb:Below w.heap.size w w'):VI w0 b m gt N rv nv rows names g i1 i2 i3 k mv bv ov sv cs w' :=
 h.far (S:=fun _=>False) (Chg.of_below hb) (fun _ h=>h.elim)
theorem VI.read (h:VI w0 b m gt N rv nv rows names g i1 i2 i3 k mv bv ov sv cs w) (hc:Chg (· =b) w w') (hb:zu w' b):VI w0 b m gt N rv nv rows names g i1 i2 i3 k mv bv ov sv cs w' :=by
 have j:∀ x,x=b->zO w x:=fun x e=>by subst e;exact h.book.noDig
 have r:=h.hb
 have l:=h.lo
 exact ⟨hc.blk h.blk (fun e=>by omega),h.cnd,h.mat.chg hc (fun i hi e=>by have:=(h.mat.rows i hi).1;omega) (fun c hc2 e=>by have:=(h.mat.own.1.lt c hc2).1;omega) j,
  h.bas.chg hc (fun c hc2 e=>by have:=(h.bas.1.lt c hc2).1;omega),h.oth.chg hc (fun c hc2 e=>by have:=(h.oth.1.lt c hc2).1;omega),
  h.scl.chg hc (fun c hc2 e=>by have:=(h.scl.lt c hc2).1;omega) j,hb,h.book.keepRows hc h.rws,h.nms.chg hc (fun _ _ e=>by subst e;exact h.book.noCells),yp h.chg hc,
  h.sne,h.one,h.lo,uC h.top hc.size,h.hb,h.gtN,h.gN,h.oN⟩
theorem vI {v:Value} (hg:w.grownBy w' v.ownBlock):Chg (fun b=>v.ownBlock=some b) w w' :=⟨hg.os,hg.tape,hg.output,hg.size,fun k hk hS=>hg.block k hk (fun e=>hS e.symm)⟩
theorem ZC {x:Nat} {cs1 cs2:Array Value} {t1 t2:TypeId} {f1 f2:Nat×Nat} (h1:w.heap[x]?=some (.cells cs1 t1 f1)) (h2:w.heap[x]?=some (.cells cs2 t2 f2)):t1=t2:=by
 rw [h1] at h2
 injection h2 with h2
 injection h2
theorem VI.scales {sv' :Value} (h:VI w0 b m gt N rv nv rows names g i1 i2 i3 k mv bv ov sv cs w) (hP:vR w' w0.heap.size sv' (i3+1) (Vu rows)) (hg:w.grownBy w' sv.ownBlock) (hat:sv'.ownBlock=sv.ownBlock\/sv'.ownBlock=some w.heap.size):
 VI w0 b m gt w'.heap.size rv nv rows names g i1 i2 (i3+1) k mv bv ov sv' cs w' :=by
 have l:=vI hg
 have C:∀ x,sv.ownBlock=some x->zO w x:=fun x e=>h.scl.noDig e
 have z:∀ x e' v size n xs,e' ≠58->vE w w0.heap.size e' size v n xs->v.ownBlock=some x->¬ sv.ownBlock=some x:=fun x e' v size n xs hne ho hx hs=>by
  obtain ⟨cs,y⟩:=h.scl.heap hs
  obtain ⟨G,D⟩:=ho.heap hx
  exact hne (ZC D y)
 have E:=h.hb
 have F:=h.lo
 have I:=h.top
 have J:=l.size
 have u:∀ x,sv.ownBlock=some x->w0.heap.size<=x:=fun x e=>(h.scl.lt x e).1
 refine ⟨l.blk h.blk (fun e=>?_),h.cnd,h.mat.chg l (fun i hi e=>h.sne i hi e) (fun c hc2 e=>z _ _ _ _ _ _ (by decide) h.mat.own hc2 e) C,
  h.bas.chg l (fun c hc2 e=>z _ _ _ _ _ _ (by decide) h.bas hc2 e),h.oth.chg l (fun c hc2 e=>z _ _ _ _ _ _ (by decide) h.oth hc2 e),hP,
  h.book.chg l (fun e=>by have:=u _ e;omega) C,h.rws.chg l (fun x hx e=>by have:=u _ e;omega),h.nms.chg l (fun x hx e=>by have:=u _ e;omega),
  h.chg.trans l (fun x hx e=>by have:=u _ e;omega),fun j hj e=>?_,h.one,h.lo,uA,h.hb,by have:=h.gtN;omega,fun j hj=>by have:=h.gN j hj;omega,fun c hc2=>?_⟩
 . obtain ⟨cs,y⟩:=h.scl.heap e
   exact xp h.blk y (by decide) rfl
 . rcases hat with B | B
   . exact h.sne j hj (by rw [<- B];exact e)
   . rw [B] at e;injection e with e;have:=h.gN j hj;omega
 . rcases hc2 with r | r | r | r
   . have:=h.oN c (.inl r);omega
   . have:=h.oN c (.inr (.inl r));omega
   . have:=h.oN c (.inr (.inr (.inl r)));omega
   . exact (hP.lt c r).2
theorem VI.row {mv' :Value} {gl:Nat} {f:Nat->Int} (h:VI w0 b m gt N rv nv rows names g i1 i2 i3 k mv bv ov sv cs w) (hr:xq w gl (2*names.length+2) (2*names.length+2) f) (hgl:N<=gl) (hf:∀ j,j<2*names.length+2->zjq rows names i1 j=f j)
 (hown:vE w' w0.heap.size 89 1 mv' (i1+1) (((List.range i1).map fun i=>zk2 (2*names.length+2) (g i)) ++ [zk2 (2*names.length+2) gl])) (hg:w.grownBy w' mv.ownBlock):
 VI w0 b m gt w'.heap.size rv nv rows names (fun i=>if i=i1 then gl else g i) (i1+1) i2 i3 k mv' bv ov sv cs w' :=by
 have l:=vI hg
 have J:=h.lo
 have G:=h.gtN
 have I:=h.hb
 have L:=h.top
 have M:=l.size
 have K:=hr.lt
 have D:∀ x,mv.ownBlock=some x->zO w x:=fun x e=>h.mat.own.2 x e
 have z:∀ x,mv.ownBlock=some x->w0.heap.size<=x:=fun x e=>(h.mat.own.1.lt x e).1
 have C:∀ x e' v size n xs,e' ≠89->vE w w0.heap.size e' size v n xs->v.ownBlock=some x->¬ mv.ownBlock=some x:=fun x e' v size n xs hne ho hx hs=>by
  obtain ⟨cs,u⟩:=h.mat.own.heap hs
  obtain ⟨E,B⟩:=ho.heap hx
  exact hne (ZC B u)
 have F:=h.mat.push hr (by omega) (fun j hj=>by have:=h.gN j hj;omega) hown hg (fun j hj=>hf j hj)
 refine ⟨l.blk h.blk (fun e=>?_),h.cnd,F,h.bas.chg l (fun c hc2 e=>C _ _ _ _ _ _ (by decide) h.bas hc2 e),h.oth.chg l (fun c hc2 e=>C _ _ _ _ _ _ (by decide) h.oth hc2 e),
  h.scl.chg l (fun c hc2 e=>?_) D,h.book.chg l (fun e=>by have:=z _ e;omega) D,
  h.rws.chg l (fun x hx e=>by have:=z _ e;omega),h.nms.chg l (fun x hx e=>by have:=z _ e;omega),
  h.chg.trans l (fun x hx e=>by have:=z _ e;omega),fun j hj e=>?_,h.one,h.lo,uA,h.hb,by omega,fun j hj=>?_,fun c hc2=>?_⟩
 . obtain ⟨cs,u⟩:=h.mat.own.heap e
   exact xp h.blk u (by decide) rfl
 . obtain ⟨cs,u⟩:=h.mat.own.heap e
   obtain ⟨E,B⟩:=h.scl.heap hc2;exact absurd (ZC u B) (by decide)
 . by_cases y:j=i1
   rotate_left
   . simp only [if_neg y] at e
     exact h.sne j (by omega) e
   simp only [if_pos y] at e
   have:=h.oN _ (.inr (.inr (.inr e)))
   omega
 . by_cases y:j=i1
   . simp only [if_pos y];omega
   simp only [if_neg y];have:=h.gN j (by omega);omega
 . rcases hc2 with r | r | r | r
   . exact (hown.1.lt c r).2
   . have:=h.oN c (.inr (.inl r));omega
   . have:=h.oN c (.inr (.inr (.inl r)));omega
   . have:=h.oN c (.inr (.inr (.inr r)));omega
theorem VI.basic {bv' :Value} (h:VI w0 b m gt N rv nv rows names g i1 i2 i3 k mv bv ov sv cs w) (hown:vE w' w0.heap.size 3 1 bv' (i2+1) (yI (i2+1) (zwy names.length))) (hg:w.grownBy w' bv.ownBlock) (hat:bv'.ownBlock=bv.ownBlock\/bv'.ownBlock=some w.heap.size):
 VI w0 b m gt w'.heap.size rv nv rows names g i1 (i2+1) i3 k mv bv' ov sv cs w' :=by
 have l:=vI hg
 have G:=h.lo
 have E:=h.gtN
 have F:=h.hb
 have I:=h.top
 have J:=l.size
 have C:∀ x,bv.ownBlock=some x->zO w x:=fun x e=>h.bas.2 x e
 have z:∀ x,bv.ownBlock=some x->w0.heap.size<=x:=fun x e=>(h.bas.1.lt x e).1
 refine ⟨l.blk h.blk (fun e=>?_),h.cnd,h.mat.chg l (fun i hi e=>?_) (fun c hc2 e=>?_) C,hown,h.oth.chg l (fun c hc2 e=>h.one c e hc2),
  h.scl.chg l (fun c hc2 e=>?_) C,h.book.chg l (fun e=>by have:=z _ e;omega) C,
  h.rws.chg l (fun x hx e=>by have:=z _ e;omega),h.nms.chg l (fun x hx e=>by have:=z _ e;omega),
  h.chg.trans l (fun x hx e=>by have:=z _ e;omega),h.sne,fun c hc2 e=>?_,h.lo,uA,h.hb,by omega,fun j hj=>by have:=h.gN j hj;omega,fun c hc2=>?_⟩
 . obtain ⟨cs,r⟩:=h.bas.heap e
   exact xp h.blk r (by decide) rfl
 . obtain ⟨cs,r⟩:=h.bas.heap e
   obtain ⟨D,y⟩:=(h.mat.rows i hi).2.heap;exact absurd (ZC r y) (by decide)
 . obtain ⟨cs,r⟩:=h.bas.heap e
   obtain ⟨D,y⟩:=h.mat.own.heap hc2;exact absurd (ZC r y) (by decide)
 . obtain ⟨cs,r⟩:=h.bas.heap e
   obtain ⟨D,y⟩:=h.scl.heap hc2;exact absurd (ZC r y) (by decide)
 . rcases hat with B | B
   . exact h.one c (by rw [<- B];exact hc2) e
   . rw [B] at hc2;injection hc2 with hc2;have:=h.oN c (.inr (.inr (.inl e)));omega
 . rcases hc2 with u | u | u | u
   . have:=h.oN c (.inl u);omega
   . exact (hown.1.lt c u).2
   . have:=h.oN c (.inr (.inr (.inl u)));omega
   . have:=h.oN c (.inr (.inr (.inr u)));omega
theorem VI.other {ov' :Value} (h:VI w0 b m gt N rv nv rows names g i1 i2 i3 k mv bv ov sv cs w) (hown:vE w' w0.heap.size 3 1 ov' (k+1) (yI (k+1) (zuz names.length m))) (hg:w.grownBy w' ov.ownBlock) (hat:ov'.ownBlock=ov.ownBlock\/ov'.ownBlock=some w.heap.size):
 VI w0 b m gt w'.heap.size rv nv rows names g i1 i2 i3 (k+1) mv bv ov' sv cs w' :=by
 have l:=vI hg
 have G:=h.lo
 have E:=h.gtN
 have F:=h.hb
 have I:=h.top
 have J:=l.size
 have C:∀ x,ov.ownBlock=some x->zO w x:=fun x e=>h.oth.2 x e
 have z:∀ x,ov.ownBlock=some x->w0.heap.size<=x:=fun x e=>(h.oth.1.lt x e).1
 refine ⟨l.blk h.blk (fun e=>?_),h.cnd,h.mat.chg l (fun i hi e=>?_) (fun c hc2 e=>?_) C,h.bas.chg l (fun c hc2 e=>h.one c hc2 e),hown,
  h.scl.chg l (fun c hc2 e=>?_) C,h.book.chg l (fun e=>by have:=z _ e;omega) C,
  h.rws.chg l (fun x hx e=>by have:=z _ e;omega),h.nms.chg l (fun x hx e=>by have:=z _ e;omega),
  h.chg.trans l (fun x hx e=>by have:=z _ e;omega),h.sne,fun c hc2 e=>?_,h.lo,uA,h.hb,by omega,fun j hj=>by have:=h.gN j hj;omega,fun c hc2=>?_⟩
 . obtain ⟨cs,r⟩:=h.oth.heap e
   exact xp h.blk r (by decide) rfl
 . obtain ⟨cs,r⟩:=h.oth.heap e
   obtain ⟨D,y⟩:=(h.mat.rows i hi).2.heap;exact absurd (ZC r y) (by decide)
 . obtain ⟨cs,r⟩:=h.oth.heap e
   obtain ⟨D,y⟩:=h.mat.own.heap hc2;exact absurd (ZC r y) (by decide)
 . obtain ⟨cs,r⟩:=h.oth.heap e
   obtain ⟨D,y⟩:=h.scl.heap hc2;exact absurd (ZC r y) (by decide)
 . rcases hat with B | B
   . exact h.one c hc2 (by rw [<- B];exact e)
   . rw [B] at e;injection e with e;have:=h.oN c (.inr (.inl hc2));omega
 . rcases hc2 with u | u | u | u
   . have:=h.oN c (.inl u);omega
   . have:=h.oN c (.inr (.inl u));omega
   . exact (hown.1.lt c u).2
   . have:=h.oN c (.inr (.inr (.inr u)));omega
theorem VI.store (h:VI w0 b m gt N rv nv rows names g i1 i2 i3 k mv bv ov sv cs w) (j:Nat) {u:Value} (hu:ZP u):VI w0 b m gt N rv nv rows names g i1 i2 i3 k mv bv ov sv (cs.setIfInBounds j u) (w.setCell ⟨gt,j,none⟩ u):=by
 have G:=h.lo
 have E:=h.gtN
 have F:=h.hb
 have D:=h.top
 have l:Chg (· =gt) w (w.setCell ⟨gt,j,none⟩ u):=Chg.setCell (S:=(· =gt)) (Chg.refl w) (p:=⟨gt,j,none⟩) rfl _
 have y:∀ x,x=gt->zO w x:=fun x e=>by subst e;exact h.blk.noDig h.cnd
 have B:(w.setCell ⟨gt,j,none⟩ u).heap.size=w.heap.size:=by simp [World.setCell]
 have z:∀ x e' v size n xs,e' ≠101->vE w w0.heap.size e' size v n xs->v.ownBlock=some x->¬ x=gt:=fun x e' v size n xs hne ho hx e=>by
  subst e
  obtain ⟨I,C⟩:=ho.heap hx
  exact xp h.blk C (fun e=>hne e.symm) rfl
 refine ⟨h.blk.set_ j u,xb h.cnd hu j,h.mat.chg l (fun i hi e=>?_) (fun c hc2 e=>z _ _ _ _ _ _ (by decide) h.mat.own hc2 e) y,h.bas.chg l (fun c hc2 e=>z _ _ _ _ _ _ (by decide) h.bas hc2 e),
  h.oth.chg l (fun c hc2 e=>z _ _ _ _ _ _ (by decide) h.oth hc2 e),h.scl.chg l (fun c hc2 e=>?_) y,h.book.chg l (fun e=>by omega) y,
  h.rws.chg l (fun x hx e=>by omega),h.nms.chg l (fun x hx e=>by omega),h.chg.trans l (fun x hx e=>by omega),h.sne,h.one,h.lo,by rw [B];exact D,h.hb,h.gtN,h.gN,h.oN⟩
 . obtain ⟨cs,r⟩:=(h.mat.rows i hi).2.heap
   rw [e] at r;exact xp h.blk r (by decide) rfl
 . subst e
   obtain ⟨cs,r⟩:=h.scl.heap hc2;exact xp h.blk r (by decide) rfl
end
theorem ve {P:Program} {w:World} {o:Oper} {a:Act} {K:Act->World->Prop} {Q:Exit->Act->World->Prop} (s x:Operand) (t:TypeId)
 (ho:o.op= .call { callee:=.builtin .append,args:=#[s,x],argTypes:=#[t,t] })
 (base:Nat) (e:TypeId) (i:TypeInfo) (z:Value) (size bytes:Nat) (ht:P.underlying t=some (.slice e)) (hi:P.info? e=some i) (hz:i.zero=some z)
 (hsize:i.size=size) (hby:i.bytes=bytes) (hzs:z.cells.size=size) (hsz:0<size)
 (v:Value) (n:Nat) (xs:List Value) (hs:a.eval s=v) (hown:vE w base e size v n xs)
 (ad:Addr) (m c:Nat) (news:List Value) (hx:a.eval x= .slice (some ad) m c) (hl:news.length=m*size) (hm:0<m) (hnews:∀ j u,news[j]?=some u->w.cell? (ad.add j)=some u) (h1:∀ u∈news,u.oneCell' =true)
 (hno:∀ u∈news,ZP u) (hzn:∀ u∈z.cells,ZP u) (h63:n+m<=maxLen) (hbytes:(n+m)*bytes<=140737488355328) (hbase:base<=w.heap.size)
 (h:∀ b w',vE w' base e size b (n+m) (xs ++ news)->w.grownBy w' v.ownBlock->(b.ownBlock=v.ownBlock\/b.ownBlock=some w.heap.size)->K (a.put o.dst b) w'):Oper.wp P o a w K Q:=by
 obtain ⟨b,w',l,r,B,y⟩:=Y2 (P:=P) w base t o.type e i z size bytes ht hi hz hsize hby hzs hsz v n xs hown ad m c news hl hm hnews h1 hno hzn h63 hbytes hbase
 unfold Oper.wp execOp
 simp only [ho,resolve,invoke,builtin,Sem.run_bind,Sem.run_pure,Result.andThen_ok,List.map_toArray,List.map_cons,List.map_nil,hs,hx,l]
 exact h b w' r B y
theorem zmn {z:Int}:(zZ z 0>0)↔0<z:=by
 unfold zZ
 split
 . omega
 split<;>omega
theorem zk.enter_yes {T:zk} {m n:Nat} {but:Int} (h1:(T.other n:Int)≠but) (h2:0<T.cell m (n+1)) (h3:T.enter m but n=0\/T.other n<T.other (T.enter m but n - 1)):T.enter m but (n+1)=n+1:=by
 show (if _ then _ else _)=_
 rw [if_pos ⟨h1,h2,h3⟩]
theorem zk.enter_no {T:zk} {m n:Nat} {but:Int} (h:¬ ((T.other n:Int)≠but/\0<T.cell m (n+1)/\(T.enter m but n=0\/T.other n<T.other (T.enter m but n - 1)))):T.enter m but (n+1)=T.enter m but n:=by
 show (if _ then _ else _)=_
 rw [if_neg h]
def EntR (w0:World) (base m L:Nat) (F:zG) (T:zk) (but:Int) (bv kv:Value) (wr:World):Prop:=
 ∃ k n:Nat,k<=L/\Hid (k=n+1)/\kv= .int .i64 (k:Nat)/\bv= .int .i64 (T.enter m but n:Nat)/\Hid (zI base m L F wr T)/\Hid (Below w0.heap.size w0 wr)
theorem zd5 (base m L:Nat) (F:zG) (T:zk) (but:Int) (w:World) (hT:zI base m L F w T) (hm:m<=100000) (hL:L<=100000):
 Calls prog 80 #[.pointer (some ⟨F.gt,0,none⟩),.int .i64 but] w (zj3 w (.int .i64 (T.enter m but (L - 1):Nat))):=by
 have t3:=hT.cell3
 have t1:=hT.cell1
 have t4:=hT.mat.cell (i:=m) (by omega)
 have ar:(m:Int)<(m:Int)+1:=by omega
 have l:=ze hT
 have aj:=ze hT.lt2
 clear hT
 go_in
 go_upto_region 2 with fail
 skip
 go_region
 skip
 have ae:=ze (l.o.below (zv w).out)
 have u:=zv w
 clear l t3 t1 t4
 generalize w.drew=W1 at ae u |-
 go_wp2_with fail
 skip
 go_loopw [5,7] (EntR w base m L F T but) (fun _ kv _=>L - (intOf kv).toNat)
 case atStart=>exact ⟨1,0,by have:=aj.o;omega,rfl,rfl,rfl,ae,u⟩
 case round=>
  clear ae u
  obtain ⟨k,n,hn,G,rfl,rfl,l,u⟩:=hrel
  have ap:0<k:=by have:=G.o;omega
  by_cases ah:k<L
  rotate_left
  . have ab:=G.o
    have ai:¬ (k:Int)<(L:Int):=by omega
    obtain rfl:n=L - 1:=by omega
    clear ab;go_wp2;go_ret;exact ⟨by go_num,u.o⟩
  have ai:(k:Int)<(L:Int):=by omega
  obtain ⟨go,co,eo,C,V⟩:=l.o.others;have E:=l.o.cell8;rw [eo] at E;have ab:=G.o;have o1:=V n (by omega);have ek:n=k - 1:=by omega
  have o1:wr.cell? ⟨go,k - 1,none⟩=some (.int .i64 (T.other n:Nat)):=by rw [<- ek];exact o1
  have au:(k:Int) - 1<((L - 1:Nat):Int):=by omega
  have am:(1:Int)<=(k:Int):=by omega
  have az:IntKind.i64.wrap ((k:Int) - 1)=(k:Int) - 1:=by rw [IntKind.wrap_i64];omega
  have ak:(0:Int)<=(k:Int) - 1:=by omega
  have ay:((k:Int) - 1).toNat=k - 1:=by omega
  have J:=l.o.lt;obtain ⟨Y,aA,Z,X,ag,a0,M,N,ha⟩:=l.o.mat.at_ (i:=m) (k:=k) (by omega) ah;have r:=(l.o.mat.rows m (by omega)).2.lt;have af:=T.enter_le m but n;obtain ⟨b,S⟩:∃ b,Hid (T.enter m but n=b):=⟨_,rfl⟩;rw [S.o] at af |-;have av:b<k:=by omega
  rw [ab] at ha;have Q:=ze ha;clear ha ab ek af
  skip
  by_cases I:(T.other n:Int)=but
  . have d1:((T.other n:Int) != but)=false:=by rw [bne_eq_false_iff_eq];exact I
    have R:Hid (T.enter m but (n+1)=b):=(T.enter_no fun h=>h.1 I).trans S.o;clear I
    go_upto_region 6 with fail
    skip
    have B:∀ w',Hid (Below wr.heap.size wr w')->w'.cell? ⟨F.gt,8,none⟩=some (.slice (some ⟨go,0,none⟩) (L - 1) co)/\w'.cell? ⟨go,k - 1,none⟩=some (.int .i64 (T.other n:Nat))/\w'.cell? ⟨F.g m,k*3,none⟩=some (.int .i64 Y)/\w'.cell? ⟨F.g m,k*3+1,none⟩=some (.slice aA Z X)/\w'.cell? ⟨F.g m,k*3+2,none⟩=some (.bool ag):=fun w' hB=>⟨zl hB J E,zl hB C o1,zl hB r a0,zl hB r M,zl hB r N⟩
    refine y8 B 11 29 40 (zv wr) fun j=>?_;simp only [xDR]
    iterate 11 refine zH ?_
    refine zB ?_;refine sK 11 ?_;refine sK 12 ?_;refine sK 13 ?_;refine sK 14 ?_;refine sK 15 ?_;refine sK 16 ?_;refine tK 17 ?_;refine tK 18 ?_;refine sK 19 ?_;refine sK 20 ?_;refine sK 21 ?_;refine sK 22 ?_;refine sK 23 ?_;refine sK 24 ?_;refine sK 25 ?_;refine sK 26 ?_;refine sK 27 ?_;refine sK 28 ?_;refine sK 29 ?_;refine sK 30 ?_;refine sK 31 ?_;refine sK 32 ?_;refine sK 33 ?_;refine sK 34 ?_;refine sK 35 ?_;refine sK 36 ?_;refine sK 37 ?_;refine sK 38 ?_;refine sK 39 ?_;have y:=(j.1).out;replace l:=ze (zI.below l.o y);replace u:=eb_ u y;clear y j B;refine hdn ?_;simp only [xDR];clear E o1 a0 M N Q r J C V;go_wp2;go_roundw
    case rel=>exact ⟨k+1,n+1,by omega,(ze (by have:=G.o;omega)),by go_num,(by rw [R.o]),l,u⟩
    case measure=>simp [intOf];omega
  have d1:((T.other n:Int) != but)=true:=by rw [bne_iff_ne];exact I
  obtain ⟨sg,ad⟩:∃ sg:Int,zZ (T.cell m (n+1)) 0=sg:=⟨_,rfl⟩;have U:=zmn (z:=T.cell m (n+1));rw [ad] at U;have al:=ze ad;have aa:=fun w' (h:zN w' (.agg #[.int .i64 Y,.slice aA Z X,.bool ag]) (T.cell m (n+1)))=>ZD _ _ w' h
  rw [ad] at aa;clear ad
  by_cases O:0<T.cell m (n+1)
  rotate_left
  . have d2:decide (sg>0)=false:=by rw [decide_eq_false_iff_not];exact fun h=>O (U.1 h)
    have R:Hid (T.enter m but (n+1)=b):=(T.enter_no fun h=>O h.2.1).trans S.o;clear I O U
    go_upto_region 6 with fail
    skip
    have B:∀ w',Hid (Below wr.heap.size wr w')->w'.cell? ⟨F.gt,8,none⟩=some (.slice (some ⟨go,0,none⟩) (L - 1) co)/\w'.cell? ⟨go,k - 1,none⟩=some (.int .i64 (T.other n:Nat))/\w'.cell? ⟨F.g m,k*3,none⟩=some (.int .i64 Y)/\w'.cell? ⟨F.g m,k*3+1,none⟩=some (.slice aA Z X)/\w'.cell? ⟨F.g m,k*3+2,none⟩=some (.bool ag):=fun w' hB=>⟨zl hB J E,zl hB C o1,zl hB r a0,zl hB r M,zl hB r N⟩
    refine y8 B 11 29 40 (zv wr) fun j=>?_;simp only [xDR]
    iterate 11 refine zH ?_
    refine zB ?_;refine tK 11 ?_;refine tK 12 ?_;refine tK 13 ?_;refine tK 14 ?_;refine rK 15 fun K hK=>?_;rw [if_pos (by rfl)]
    go_simp
    go_at_call 76;refine (aa _ (Q.o.below j.1.out)).mono ?_;rintro e w1 ⟨rfl,D⟩;refine hK.out _ _ (zm (zp D j.1) (B _)) ?_;clear hK K j;intro j
    try simp only [Act.put,xST]
    clear D;refine tK 16 ?_;refine tK 17 ?_;refine tK 18 ?_;refine sK 19 ?_;refine sK 20 ?_;refine sK 21 ?_;refine sK 22 ?_;refine sK 23 ?_;refine sK 24 ?_;refine sK 25 ?_;refine sK 26 ?_;refine sK 27 ?_;refine sK 28 ?_;refine sK 29 ?_;refine sK 30 ?_;refine sK 31 ?_;refine sK 32 ?_;refine sK 33 ?_;refine sK 34 ?_;refine sK 35 ?_;refine sK 36 ?_;refine sK 37 ?_;refine sK 38 ?_;refine sK 39 ?_;have y:=(j.1).out;replace l:=ze (zI.below l.o y);replace u:=eb_ u y;clear y j B;refine hdn ?_;simp only [xDR];clear E o1 a0 M N Q r J C V;go_wp2;go_roundw
    case rel=>exact ⟨k+1,n+1,by omega,(ze (by have:=G.o;omega)),by go_num,(by rw [R.o]),l,u⟩
    case measure=>simp [intOf];omega
  have d2:decide (sg>0)=true:=by rw [decide_eq_true_iff];exact U.2 O
  by_cases h3:b=0
  . have d3:((b:Int) == 0)=true:=by rw [beq_iff_eq];omega
    have R:Hid (T.enter m but (n+1)=n+1):=T.enter_yes I O (.inl (S.o.trans h3));clear I O h3 U
    go_upto_region 6 with fail
    skip
    have B:∀ w',Hid (Below wr.heap.size wr w')->w'.cell? ⟨F.gt,8,none⟩=some (.slice (some ⟨go,0,none⟩) (L - 1) co)/\w'.cell? ⟨go,k - 1,none⟩=some (.int .i64 (T.other n:Nat))/\w'.cell? ⟨F.g m,k*3,none⟩=some (.int .i64 Y)/\w'.cell? ⟨F.g m,k*3+1,none⟩=some (.slice aA Z X)/\w'.cell? ⟨F.g m,k*3+2,none⟩=some (.bool ag):=fun w' hB=>⟨zl hB J E,zl hB C o1,zl hB r a0,zl hB r M,zl hB r N⟩
    refine y8 B 11 29 40 (zv wr) fun j=>?_;simp only [xDR]
    iterate 11 refine zH ?_
    refine zB ?_;refine tK 11 ?_;refine tK 12 ?_;refine tK 13 ?_;refine tK 14 ?_;refine rK 15 fun K hK=>?_;rw [if_pos (by rfl)]
    go_simp
    go_at_call 76;refine (aa _ (Q.o.below j.1.out)).mono ?_;rintro e w1 ⟨rfl,D⟩;refine hK.out _ _ (zm (zp D j.1) (B _)) ?_;clear hK K j;intro j
    try simp only [Act.put,xST]
    clear D;refine tK 16 ?_;refine tK 17 ?_;refine tK 18 ?_;refine tK 19 ?_;refine tK 20 ?_;refine tK 21 ?_;refine sK 22 ?_;refine sK 23 ?_;refine sK 24 ?_;refine sK 25 ?_;refine sK 26 ?_;refine sK 27 ?_;refine sK 28 ?_;refine sK 29 ?_;refine sK 30 ?_;refine sK 31 ?_;refine sK 32 ?_;refine sK 33 ?_;refine sK 34 ?_;refine sK 35 ?_;refine sK 36 ?_;refine sK 37 ?_;refine sK 38 ?_;refine tK 39 ?_;have y:=(j.1).out;replace l:=ze (zI.below l.o y);replace u:=eb_ u y;clear y j B;refine hdn ?_;simp only [xDR];clear E o1 a0 M N Q r J C V;go_wp2;go_roundw
    case rel=>exact ⟨k+1,n+1,by omega,(ze (by have:=G.o;omega)),by go_num,(by rw [R.o,G.o]),l,u⟩
    case measure=>simp [intOf];omega
  have d3:((b:Int) == 0)=false:=by rw [beq_eq_false_iff_ne];omega
  have o2:=V (b - 1) (by omega);have D:((b:Int) - 1).toNat=b - 1:=by omega
  have aw:(0:Int)<=(b:Int) - 1:=by omega
  have aq:(1:Int)<=(b:Int):=by omega
  have ao:IntKind.i64.wrap ((b:Int) - 1)=(b:Int) - 1:=by rw [IntKind.wrap_i64];omega
  have aB:(b:Int) - 1<((L - 1:Nat):Int):=by omega
  by_cases h4:T.other n<T.other (b - 1)
  . have d4:decide ((T.other n:Int)<(T.other (b - 1):Int))=true:=by rw [decide_eq_true_iff];omega
    have d5:decide (T.other n<T.other (b - 1))=true:=uE h4;have R:Hid (T.enter m but (n+1)=n+1):=T.enter_yes I O (.inr (by rw [S.o];exact h4));clear I O h3 U
    go_upto_region 6 with fail
    skip
    have B:∀ w',Hid (Below wr.heap.size wr w')->w'.cell? ⟨F.gt,8,none⟩=some (.slice (some ⟨go,0,none⟩) (L - 1) co)/\w'.cell? ⟨go,k - 1,none⟩=some (.int .i64 (T.other n:Nat))/\w'.cell? ⟨F.g m,k*3,none⟩=some (.int .i64 Y)/\w'.cell? ⟨F.g m,k*3+1,none⟩=some (.slice aA Z X)/\w'.cell? ⟨F.g m,k*3+2,none⟩=some (.bool ag)/\w'.cell? ⟨go,b - 1,none⟩=some (.int .i64 (T.other (b - 1):Nat)):=fun w' hB=>⟨zl hB J E,zl hB C o1,zl hB r a0,zl hB r M,zl hB r N,zl hB C o2⟩
    refine y8 B 11 29 40 (zv wr) fun j=>?_;simp only [xDR]
    iterate 11 refine zH ?_
    refine zB ?_;refine tK 11 ?_;refine tK 12 ?_;refine tK 13 ?_;refine tK 14 ?_;refine rK 15 fun K hK=>?_;rw [if_pos (by rfl)]
    go_simp
    go_at_call 76;refine (aa _ (Q.o.below j.1.out)).mono ?_;rintro e w1 ⟨rfl,D⟩;refine hK.out _ _ (zm (zp D j.1) (B _)) ?_;clear hK K j;intro j
    try simp only [Act.put,xST]
    clear D;refine tK 16 ?_;refine tK 17 ?_;refine tK 18 ?_;refine tK 19 ?_;refine tK 20 ?_;refine tK 21 ?_;refine tK 22 ?_;refine tK 23 ?_;refine tK 24 ?_;refine tK 25 ?_;refine tK 26 ?_;refine tK 27 ?_;refine tK 28 ?_;refine tK 29 ?_;refine tK 30 ?_;refine tK 31 ?_;refine tK 32 ?_;refine tK 33 ?_;refine tK 34 ?_;refine tK 35 ?_;refine tK 36 ?_;refine tK 37 ?_;refine tK 38 ?_;refine tK 39 ?_;have y:=(j.1).out;replace l:=ze (zI.below l.o y);replace u:=eb_ u y;clear y j B;refine hdn ?_;simp only [xDR];clear E o1 a0 M N Q r J C V;go_wp2;go_roundw
    case rel=>exact ⟨k+1,n+1,by omega,(ze (by have:=G.o;omega)),by go_num,(by rw [R.o,G.o]),l,u⟩
    case measure=>simp [intOf];omega
  have d4:decide ((T.other n:Int)<(T.other (b - 1):Int))=false:=by rw [decide_eq_false_iff_not];omega
  have d5:decide (T.other n<T.other (b - 1))=false:=uF h4
  have R:Hid (T.enter m but (n+1)=b):=(T.enter_no fun h=>by
   rcases h.2.2 with h5 | h5
   . exact h3 (S.o.symm.trans h5)
   . rw [S.o] at h5;exact h4 h5).trans S.o
  clear I O h3 U
  go_upto_region 6 with fail
  skip
  have B:∀ w',Hid (Below wr.heap.size wr w')->w'.cell? ⟨F.gt,8,none⟩=some (.slice (some ⟨go,0,none⟩) (L - 1) co)/\w'.cell? ⟨go,k - 1,none⟩=some (.int .i64 (T.other n:Nat))/\w'.cell? ⟨F.g m,k*3,none⟩=some (.int .i64 Y)/\w'.cell? ⟨F.g m,k*3+1,none⟩=some (.slice aA Z X)/\w'.cell? ⟨F.g m,k*3+2,none⟩=some (.bool ag)/\w'.cell? ⟨go,b - 1,none⟩=some (.int .i64 (T.other (b - 1):Nat)):=fun w' hB=>⟨zl hB J E,zl hB C o1,zl hB r a0,zl hB r M,zl hB r N,zl hB C o2⟩
  refine y8 B 11 29 40 (zv wr) fun j=>?_;simp only [xDR]
  iterate 11 refine zH ?_
  refine zB ?_;refine tK 11 ?_;refine tK 12 ?_;refine tK 13 ?_;refine tK 14 ?_;refine rK 15 fun K hK=>?_;rw [if_pos (by rfl)]
  go_simp
  go_at_call 76;refine (aa _ (Q.o.below j.1.out)).mono ?_;rintro e w1 ⟨rfl,D⟩;refine hK.out _ _ (zm (zp D j.1) (B _)) ?_;clear hK K j;intro j
  try simp only [Act.put,xST]
  clear D;refine tK 16 ?_;refine tK 17 ?_;refine tK 18 ?_;refine tK 19 ?_;refine tK 20 ?_;refine tK 21 ?_;refine tK 22 ?_;refine tK 23 ?_;refine tK 24 ?_;refine tK 25 ?_;refine tK 26 ?_;refine tK 27 ?_;refine tK 28 ?_;refine tK 29 ?_;refine tK 30 ?_;refine tK 31 ?_;refine tK 32 ?_;refine tK 33 ?_;refine tK 34 ?_;refine tK 35 ?_;refine tK 36 ?_;refine tK 37 ?_;refine tK 38 ?_;refine tK 39 ?_;have y:=(j.1).out;replace l:=ze (zI.below l.o y);replace u:=eb_ u y;clear y j B;refine hdn ?_;simp only [xDR];clear E o1 a0 M N Q r J C V;go_wp2;go_roundw
  case rel=>exact ⟨k+1,n+1,by omega,(ze (by have:=G.o;omega)),by go_num,(by rw [R.o]),l,u⟩
  case measure=>simp [intOf];omega
end Go.Proofs.YtobdoblpnanclaaGreatDoor
