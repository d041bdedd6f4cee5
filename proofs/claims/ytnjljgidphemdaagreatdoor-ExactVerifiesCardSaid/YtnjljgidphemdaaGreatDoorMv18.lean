/- Parts of the proof. -/
import Derived.Test.YtnjljgidphemdaaGreatDoorMv15
import Derived.Test.YtnjljgidphemdaaGreatDoorMv17
set_option linter.all false
set_option maxRecDepth 100000
set_option maxHeartbeats 32000000
namespace Go.Proofs.YtnjljgidphemdaaGreatDoor
open Proofs.Tryz Go.RowKit Go.Deep
attribute [local go_sem ↓] Go.wp_at_zero Go.wp_at_succ
def Zt (q:Rat) (z:Int):Int:=q.num*z.tdiv q.den
theorem zta {z y:Int} {M:Nat} (h:len 4294967296 z.natAbs<=M):len 4294967296 (z.tdiv y).natAbs<=M:=by
 rw [Int.natAbs_tdiv]
 exact uC (vI (by omega) (Nat.div_le_self _ _)) h
theorem zdt (va vn:Value) (q:Rat) (z:Int) (w:World) (ha:yk w va q) (hn:zY w vn z) (hq:Zu 8388608 q) (hz:len 4294967296 z.natAbs<=33554432):
 Calls prog 139 #[va,vn] w (Y6 w (Zt q z)):=by
 obtain ⟨K,u,L,F,J,E,B,G,N,I,rfl,ag,ak⟩:=ha
 obtain ⟨C,O,D,y,M,rfl,_,_,_⟩:=hn.form
 obtain ⟨r,ah,HN⟩:=hz3 ag ak hn
 have al:=ze hq.1
 have ao:=ze hq.2
 have HZ:=ze hz
 have HD:Hid ((q.den:Int)≠0):=by have:=q.den_nz;show (q.den:Int)≠0;omega
 obtain ⟨W0,U⟩:∃ x,x=((w.alloc (.cells #[.int .i64 K,.slice u L F,.bool J,.int .i64 E,.slice B G N,.bool I] 70)).alloc (.cells #[.int .i64 C,.slice O D y,.bool M] 68)).alloc (.cells #[.int .i64 0,.slice none 0 0,.bool false] 68):=⟨_,rfl⟩
 have af:=((Blk.new w 70 #[.int .i64 K,.slice u L F,.bool J,.int .i64 E,.slice B G N,.bool I]).alloc (.cells #[.int .i64 C,.slice O D y,.bool M] 68)).alloc (.cells #[.int .i64 0,.slice none 0 0,.bool false] 68)
 have aa:=(Blk.new (w.alloc (.cells #[.int .i64 K,.slice u L F,.bool J,.int .i64 E,.slice B G N,.bool I] 70)) 68 #[.int .i64 C,.slice O D y,.bool M]).alloc (.cells #[.int .i64 0,.slice none 0 0,.bool false] 68)
 have X:=Blk.new ((w.alloc (.cells #[.int .i64 K,.slice u L F,.bool J,.int .i64 E,.slice B G N,.bool I] 70)).alloc (.cells #[.int .i64 C,.slice O D y,.bool M] 68)) 68 #[.int .i64 0,.slice none 0 0,.bool false]
 have hW:=ext (ext (zf w (.cells #[.int .i64 K,.slice u L F,.bool J,.int .i64 E,.slice B G N,.bool I] 70)) (zf _ (.cells #[.int .i64 C,.slice O D y,.bool M] 68))) (zf _ (.cells #[.int .i64 0,.slice none 0 0,.bool false] 68))
 simp only [World.size_alloc] at aa X
 rw [<- U] at af aa X hW
 obtain ⟨m,b,j⟩:=hz3 af X hW
 have ai:=ze (show W0.heap.size=w.heap.size+3 by rw [U];simp only [World.size_alloc])
 clear ag ak hn hq hz af aa X hW
 go_in
 go_wp2_with fail
 rw [<- U]
 clear U
 refine (zbv _ _ _ _ _ (HN.o.below j.o) (ah.o.below j.o) HD.o HZ.o (uC ao.o (by omega))).mono ?_
 rintro e Z ⟨v,v',rfl,hv,aj,Q⟩
 obtain ⟨x3,A3,k3,c3,s3,rfl,_,_,_⟩:=hv.form
 obtain ⟨x4,A4,k4,c4,s4,rfl,_,_,_⟩:=aj.form
 replace m:=kb_ m Q
 replace b:=kb_ b Q
 replace j:=eb_ j Q
 replace r:=ze (r.o.below j.o)
 have HV:=ze hv
 have ap:Hid (w.heap.size+3<=Z.heap.size):=by have:=ai.o;have:=Q.size;show _<=_;omega
 clear hv aj Q ai HN ah
 obtain ⟨W1,ac⟩:∃ x,x=(Z.alloc (.cells #[.int .i64 x3,.slice A3 k3 c3,.bool s3] 68)).alloc (.cells #[.int .i64 x4,.slice A4 k4 c4,.bool s4] 68):=⟨_,rfl⟩
 have l:=ext (zf Z (.cells #[.int .i64 x3,.slice A3 k3 c3,.bool s3] 68)) (zf _ (.cells #[.int .i64 x4,.slice A4 k4 c4,.bool s4] 68))
 have ae:=(Blk.new Z 68 #[.int .i64 x3,.slice A3 k3 c3,.bool s3]).alloc (.cells #[.int .i64 x4,.slice A4 k4 c4,.bool s4] 68)
 rw [<- ac] at l ae
 replace m:=kb_ m l
 replace b:=kb_ b l
 replace j:=eb_ j l
 replace r:=ze (r.o.below l)
 replace HV:=ze (HV.o.below l)
 clear l
 go_upto_region 2 with fail
 rw [<- ac]
 clear ac;obtain ⟨r0,r1,r2,_⟩:=bq3 m;obtain ⟨q0,q1,q2,_⟩:=bp3 ae;clear ae
 go_wp2_with fail
 refine (xY _ _ _ _ _ r.o HV.o (uC al.o (by omega)) (zta (uC HZ.o (by omega)))).mono ?_
 rintro e w2 ⟨v2,rfl,ad,ab⟩
 obtain ⟨T,R,V,c5,Y,rfl,_,_,_⟩:=ad.form
 replace b:=kb_ b ab
 replace j:=eb_ j ab
 clear m r HV r0 r1 r2 q0 q1 q2 ab;have z0:=b.o.cell 0;have z1:=b.o.cell 1;have z2:=b.o.cell 2;obtain ⟨f0,f1,f2⟩:=fq3 b;simp at z0 z1 z2
 have S:=yp (x:=T) (A:=R) (k:=V) (c:=c5) (ng:=Y) b.o
 have e0:=S.cell 0;have e1:=S.cell 1;have e2:=S.cell 2
 simp only [World.num] at e0 e1 e2
 simp at e0 e1 e2
 have am:=ze (zB (x:=T) (A:=R) (k:=V) (c:=c5) (ng:=Y) ad b.o)
 have an:=ze (zT (x:=T) (A:=R) (k:=V) (c:=c5) (ng:=Y) j.o (show w.heap.size<=w.heap.size+1+1 by omega))
 clear S ad
 go_wp2_with fail
 refine bodyPost_ret (v:=.agg #[.int .i64 T,.slice R V c5,.bool Y]) (by simp [results,results139,go_sem,e0,e1,e2]) rfl ?_
 exact ⟨_,rfl,am.o,an.o⟩
def qOf (l:List UInt8):Rat:=(zl l).getD 0
theorem VA {l:List UInt8} (h:(zl l).isSome=true):zl l=some (qOf l):=by
 obtain ⟨q,b⟩:=Option.isSome_iff_exists.1 h
 rw [b];unfold qOf;rw [b];rfl
def ZB (d:Int) (l:List zu):Nat->Int
 | 0=>d
 | n+1=>ZB d l n*(Rat.divInt ((qOf (l.getD n default).coef).den:Int) (ZB d l n)).num
def zzl (l:List zu):Prop:=∀ t∈l,(zl t.coef).isSome=true/\Zu 8388608 (qOf t.coef)
structure zgi (bound:List UInt8) (l:List zu):Prop where
 bsome:(zl bound).isSome=true
 blen:Zu 8388608 (qOf bound)
 good:zzl l
 nlen:∀ n,n<l.length->len 4294967296 (Rat.divInt ((qOf (l.getD n default).coef).den:Int) (ZB ((qOf bound).den:Int) l n)).num.natAbs<=67108864
 fit:∀ n,n<=l.length->Fit (ZB ((qOf bound).den:Int) l n)/\ZB ((qOf bound).den:Int) l n≠0
def zx9 (b:Nat) (z:Int) (w:World) (e:Ending) (w' :World):Prop:=∃ v,e= .returned v/\zY w' v z/\zv w' b/\Chg (· =b) w w'
def SclR (w0:World) (b gr gd B:Nat) (tv:Value) (l:List zu) (d:Int) (kv:Value) (wr:World):Prop:=
 ∃ k:Nat,k<=l.length/\kv= .int .i64 k/\Hid (Yb wr gd (ZB d l k))/\Hid (Yb wr gr 0)/\Hid (zv wr b)/\Hid (zh wr B tv l)/\Hid (Chg (· =b) w0 wr)
theorem zv.keepBox {w w' :World} {b g:Nat} {z:Int} (h:zv w b) (hc:Chg (· =b) w w') (hk:Yb w g z):Yb w' g z:=by
 obtain ⟨x,A,n,c,ng,e,j⟩:=hk
 exact ⟨x,A,n,c,ng,h.keepBlk hc e,h.keepN hc j⟩
theorem zJ {S:Nat->Prop} {w w1 w2:World} (h:Chg S w w1) (hb:Below w1.heap.size w1 w2):Chg S w w2:=h.trans (Chg.of_below (S:=S) hb) (fun _ _ h=>h)
theorem yn {S:Nat->Prop} {w w1 w2:World} (h:Chg S w w1) (k:Chg S w1 w2):Chg S w w2:=h.trans k (fun _ _ h=>h)
theorem yk.parts {w:World} {x y:Int} {A B:Option Addr} {k c k' c' :Nat} {s t:Bool} {q:Rat} (h:yk w (.agg #[.int .i64 x,.slice A k c,.bool s,.int .i64 y,.slice B k' c',.bool t]) q):
 zY w (.agg #[.int .i64 x,.slice A k c,.bool s]) q.num/\zY w (.agg #[.int .i64 y,.slice B k' c',.bool t]) (q.den:Int):=by
 obtain ⟨E,A',l,F,r,D,z,u,m,C,e,j,b⟩:=h
 simp only [Value.agg.injEq,Array.mk.injEq,List.cons.injEq,Value.int.injEq,Value.slice.injEq,Value.bool.injEq,and_true,true_and] at e
 obtain ⟨rfl,⟨rfl,rfl,rfl⟩,rfl,rfl,⟨rfl,rfl,rfl⟩,rfl⟩:=e
 exact ⟨j,b⟩
theorem zfx (b:Nat) (A:Option Addr) (n c:Nat) (bound:List UInt8) (l:List zu) (w:World) (hB:zv w b) (ht:zV w (.slice A n c) l) (hs:zS bound) (V:zgi bound l):
 Calls prog 138 #[.map (some b),.agg #[.slice A n c,str bound]] w (zx9 b (ZB ((qOf bound).den:Int) l l.length) w):=by
 obtain rfl:=ht.len
 have aj:=ht.bound
 have ak:=ze V
 have HS:=ze hs
 obtain ⟨W0,ay⟩:∃ x,x=(w.alloc (.cells #[.slice A l.length c,str bound] 31)).alloc (.cells #[.int .i64 0,.slice none 0 0,.bool false] 68):=⟨_,rfl⟩
 have j:=ext (zf w (.cells #[.slice A l.length c,str bound] 31)) (zf _ (.cells #[.int .i64 0,.slice none 0 0,.bool false] 68))
 have aD:=(Blk.new w 31 #[.slice A l.length c,str bound]).alloc (.cells #[.int .i64 0,.slice none 0 0,.bool false] 68)
 have ah:=Blk.new (w.alloc (.cells #[.slice A l.length c,str bound] 31)) 68 #[.int .i64 0,.slice none 0 0,.bool false]
 simp only [World.size_alloc] at ah
 rw [<- ay] at j aD ah
 have aM:=ze hB.lt
 have m:=ze (hB.below j)
 have B:=ze (zh.below ht j)
 have T:=ze aD
 have r:Hid (Yb W0 (w.heap.size+1) 0):=⟨_,_,_,_,_,ah,zl3 _ _⟩
 have u:Hid (Chg (· =b) w W0):=Chg.of_below j
 have aC:=fun w' (h:zv w' b) (s:List UInt8) (hs:zS s)=>xU b ⟨s.toArray⟩ w' h (by rw [<- zm,yt];exact hs)
 simp only [yt] at aC
 have aL:=ze aC
 clear hB ht V hs j aD ah aC
 go_in
 go_wp2_with fail
 rw [<- ay]
 clear ay
 refine (aL.o _ m.o bound HS.o).mono ?_
 rintro e L ⟨v,ok,rfl,⟨x1,A1,k1,c1,s1,Y,U,Z,ab,t1,rfl⟩,V,hq,ac,D⟩
 have af:=hq _ (VA ak.o.bsome)
 replace B:=ze (m.o.keepT D B.o)
 replace T:=ze (m.o.keepBlk D T.o)
 replace r:=ze (m.o.keepBox D r.o)
 replace u:=ze (yn u.o D)
 replace m:=ze ac
 have S:=ze af
 have aZ:Hid (w.heap.size<=L.heap.size):=u.o.size
 clear ac D hq V af
 skip
 obtain ⟨W1,ax⟩:∃ x,x=(L.alloc (.cells #[.int .i64 x1,.slice A1 k1 c1,.bool s1,.int .i64 Y,.slice U Z ab,.bool t1] 70)).alloc (.cells #[.int .i64 Y,.slice U Z ab,.bool t1] 68):=⟨_,rfl⟩
 have j:=ext (zf L (.cells #[.int .i64 x1,.slice A1 k1 c1,.bool s1,.int .i64 Y,.slice U Z ab,.bool t1] 70)) (zf _ (.cells #[.int .i64 Y,.slice U Z ab,.bool t1] 68))
 have C:=Blk.new (L.alloc (.cells #[.int .i64 x1,.slice A1 k1 c1,.bool s1,.int .i64 Y,.slice U Z ab,.bool t1] 70)) 68 #[.int .i64 Y,.slice U Z ab,.bool t1]
 simp only [World.size_alloc] at C
 rw [<- ax] at j C
 have y:Hid (Yb W1 (L.heap.size+1) (ZB ((qOf bound).den:Int) l 0)):=⟨_,_,_,_,_,C,S.o.parts.2.below j⟩
 have az:Hid (w.heap.size+1≠L.heap.size+1):=by have:=r.o.lt;show _≠_;omega
 replace m:=ze (m.o.below j)
 replace B:=ze (zh.below B.o j)
 replace T:=kb_ T j
 replace r:=ze (r.o.below j)
 replace u:=ze (zJ u.o j)
 clear j C S
 go_upto_region 3 with fail
 rw [<- ax]
 clear ax
 have aS:Hid (w.heap.size<=L.heap.size+1):=by have:=aZ.o;show _<=_;omega
 generalize L.heap.size+1=gd at y az aS |-
 have r0:=(bq1 T).1
 go_wp2_with fail
 obtain ⟨gr,aq⟩:=uQ (w.heap.size+1)
 rw [<- aq] at r az |-
 have aV:Hid (w.heap.size<=gr):=by show _<=_;omega
 clear aq r0 T
 obtain ⟨d,ap⟩:∃ d,Hid (((qOf bound).den:Int)=d):=⟨_,rfl⟩
 rw [ap.o] at y |-
 go_loopw [25] (SclR w b gr gd w.heap.size (.slice A l.length c) l d) (fun kv _=>l.length - (intOf kv).toNat)
 case atStart=>exact ⟨0,uB,rfl,y,r,m,B,u⟩
 case round=>
  clear y r m B u
  obtain ⟨k,hk,rfl,y,r,m,B,u⟩:=hrel
  by_cases an:k<l.length
  rotate_left
  . obtain rfl:k=l.length:=by omega
    obtain ⟨I,K,G,J,dg,C,hdn⟩:=y.o;have O:=C.cell 0;have Q:=C.cell 1;have N:=C.cell 2;obtain ⟨zx,zA,zn,zc,zg,M,aU⟩:=r.o;have z0:=M.cell 0;have z1:=M.cell 1;have z2:=M.cell 2;obtain ⟨f0,f1,f2⟩:=fp3 M;simp at O Q N z0 z1 z2;have ai:=yp (x:=I) (A:=K) (k:=G) (c:=J) (ng:=dg) M;have e0:=ai.cell 0;have e1:=ai.cell 1;have e2:=ai.cell 2;simp only [World.num] at e0 e1 e2;simp at e0 e1 e2;have ag:=M.noDig (V6 _ _ _ _ _);have hS:∀ z,z=gr->ye wr z:=fun z e=>by subst e;exact ag
    have E:=ZX (w:=wr) (g:=gr) (x:=I) (A:=K) (n:=G) (c:=J) (ng:=dg);have aq:=aV.o;have aj:=aM.o;have HV:=ze (zB (x:=I) (A:=K) (k:=G) (c:=J) (ng:=dg) hdn M);have ao:=ze (m.o.chg E (by omega) hS);have al:Hid (Chg (· =b) w (World.num wr gr I K G J dg)):=u.o.trans E (fun z hz e=>by omega);clear y r m B u C hdn M aU ai ag hS E aq aj;go_wp2_with fail;refine bodyPost_ret (v:=.agg #[.int .i64 I,.slice K G J,.bool dg]) (by simp [results,results138,go_sem,e0,e1,e2]) rfl ?_;exact ⟨_,rfl,by rw [ap.o];exact HV.o,ao.o,al.o⟩
  have a1:(k:Int)<(l.length:Int):=by omega
  obtain ⟨ad,eA,aT,p0,R,aY,aI⟩:=B.o.at_ an;subst eA;have j:=zf wr (.cells #[str l[k].name,str l[k].coef] 45);have am:=ze (Blk.new wr 45 #[str l[k].name,str l[k].coef]);replace y:=ze (y.o.below j);replace r:=ze (r.o.below j);replace m:=ze (m.o.below j);replace B:=ze (zh.below B.o j);replace u:=ze (zJ u.o j);have aW:=ze aI;have aG:=xGD (d:=default) an;have aH:=ak.o.good l[k] (uO an);have HG:=ze aH;have aP:=ze aG;clear j aY aI aG aH
  go_upto_region 6 with fail
  clear p0 R aT;generalize wr.alloc (.cells #[str l[k].name,str l[k].coef] 45)=WL at am y r m B u |-;generalize wr.heap.size=gt at am |-;have R:=am.o.cell 1;simp at R;go_wp2_with fail;refine (aL.o _ m.o _ aW.o).mono ?_;rintro e w2 ⟨v,ok,rfl,⟨x2,A2,k2,c2,s2,y2,B2,au,ar,t2,rfl⟩,V,hq,ac,D⟩;have af:=hq _ (VA HG.o.1);replace B:=ze (m.o.keepT D B.o);replace y:=ze (m.o.keepBox D y.o);replace r:=ze (m.o.keepBox D r.o);replace u:=ze (yn u.o D);replace m:=ze ac;have j:=zf w2 (.cells #[.int .i64 x2,.slice A2 k2 c2,.bool s2,.int .i64 y2,.slice B2 au ar,.bool t2] 70);have aa:=ze (Blk.new w2 70 #[.int .i64 x2,.slice A2 k2 c2,.bool s2,.int .i64 y2,.slice B2 au ar,.bool t2]);replace y:=ze (y.o.below j);replace r:=ze (r.o.below j);replace m:=ze (m.o.below j);replace B:=ze (zh.below B.o j);replace u:=ze (zJ u.o j);have S:=ze (af.below j);clear j ac D hq V af R am
  go_upto_region 7 with fail
  generalize w2.alloc (.cells #[.int .i64 x2,.slice A2 k2 c2,.bool s2,.int .i64 y2,.slice B2 au ar,.bool t2] 70)=W2 at aa y r m B u S |-;generalize w2.heap.size=gc at aa |-;have p3:=aa.o.cell 3;have p4:=aa.o.cell 4;have p5:=aa.o.cell 5;obtain ⟨I,K,G,J,dg,C,hdn⟩:=y.o;obtain ⟨O,Q,N,_⟩:=bp3 C;simp at p3 p4 p5;have ae:=ze hdn;have aA:=ak.o.fit k hk;rw [ap.o] at aA;have aB:=ze aA;clear C hdn aA;go_wp2_with fail;refine (YE _ _ _ _ _ S.o.parts.2 ae.o aB.o.2 (uC HG.o.2.2 (by omega)) (uC aB.o.1 (by omega))).mono ?_;rintro e w3 ⟨v,rfl,hv,F⟩;have j:=F;replace y:=ze (y.o.below j);replace r:=ze (r.o.below j);replace m:=ze (m.o.below j);replace B:=ze (zh.below B.o j);replace u:=ze (zJ u.o j);clear j F p3 p4 p5 O Q N aa ae S;obtain ⟨x3,A3,k3,c3,s3,y3,B3,aF,av,t3,rfl,aK,aX⟩:=hv;have j:=zf w3 (.cells #[.int .i64 x3,.slice A3 k3 c3,.bool s3,.int .i64 y3,.slice B3 aF av,.bool t3] 70)
  have X:=ze (Blk.new w3 70 #[.int .i64 x3,.slice A3 k3 c3,.bool s3,.int .i64 y3,.slice B3 aF av,.bool t3]);replace y:=ze (y.o.below j);replace r:=ze (r.o.below j);replace m:=ze (m.o.below j);replace B:=ze (zh.below B.o j);replace u:=ze (zJ u.o j);have aw:=ze (aK.below j);clear j aK aX
  go_upto_region 8 with fail
  generalize w3.alloc (.cells #[.int .i64 x3,.slice A3 k3 c3,.bool s3,.int .i64 y3,.slice B3 aF av,.bool t3] 70)=W3 at X y r m B u aw |-;generalize w3.heap.size=gq at X |-;have p0:=X.o.cell 0;have R:=X.o.cell 1;have p2:=X.o.cell 2;obtain ⟨I,K,G,J,dg,C,hdn⟩:=y.o;obtain ⟨O,Q,N,_⟩:=bp3 C;simp at p0 R p2;have ae:=ze hdn;have aE:=ak.o.nlen k an;rw [ap.o,aP.o] at aE;have aQ:=ze aE;clear C hdn aE;go_wp2_with fail;refine (xY _ _ _ _ _ ae.o aw.o (uC aB.o.1 (by omega)) aQ.o).mono ?_;rintro e w4 ⟨v,rfl,hv,F⟩;replace y:=ze (y.o.below F);replace r:=ze (r.o.below F);replace m:=ze (m.o.below F);replace B:=ze (zh.below B.o F);replace u:=ze (zJ u.o F);clear F p0 R p2 O Q N X ae aw aQ;obtain ⟨x5,A5,k5,c5,s5,rfl,_,_,_⟩:=hv.form;obtain ⟨I,K,G,J,dg,C,hdn⟩:=y.o;have O:=C.cell 0;have Q:=C.cell 1;have N:=C.cell 2;obtain ⟨f0,f1,f2⟩:=fp3 C;simp at O Q N
  have ag:=C.noDig (V6 _ _ _ _ _);have hS:∀ z,z=gd->ye w4 z:=fun z e=>by subst e;exact ag
  have E:=ZX (w:=w4) (g:=gd) (x:=x5) (A:=A5) (n:=k5) (c:=c5) (ng:=s5);have a0:=aS.o;have aj:=aM.o;have aJ:ZB d l (k+1)=ZB d l k*(Rat.divInt ((qOf l[k].coef).den:Int) (ZB d l k)).num:=by rw [<- aP.o];rfl
  have aO:Hid (Yb (World.num w4 gd x5 A5 k5 c5 s5) gd (ZB d l (k+1))):=by rw [aJ];exact zc0 C hv
  have aR:=ze (r.o.chg E az.o hS);have ao:=ze (m.o.chg E (by omega) hS);have aN:=ze (zh.chg B.o E (fun z hz e=>by omega));have al:Hid (Chg (· =b) w (World.num w4 gd x5 A5 k5 c5 s5)):=u.o.trans E (fun z hz e=>by omega);clear y r m B u C hdn hv ag hS E a0 aj aJ;go_wp2;go_roundw
  case rel=>first | exact ⟨k+1,by omega,by go_num,aO,aR,ao,aN,al⟩ | ((repeat apply Exists.intro);exact ⟨⟨k+1,by omega,by go_num,aO,aR,ao,aN,al⟩,rfl⟩)
  case measure=>simp [intOf];omega
theorem zh5 {l:List UInt8} {q:Rat} (h:zl l=some q):Zu 67108864 q:=by
 have b:Zu 50000 q:=(yN.1 h).2.len
 exact ⟨uC b.1 (by omega),uC b.2 (by omega)⟩
def VO (b:Nat) (z:Int) (w:World) (e:Ending) (w' :World):Prop:=e= .returned (.int .i64 z)/\zv w' b/\Chg (· =b) w w'
theorem zn1 (b:Nat) (l:List UInt8) (w:World) (hB:zv w b) (hs:zS l):Calls prog 94 #[.map (some b),str l] w (VO b (yD l) w):=by
 have I:=xU b ⟨l.toArray⟩ w hB (by rw [<- zm,yt];exact hs)
 rw [yt] at I
 have K:=ze I
 clear hB hs I
 go_in
 go_wp2_with fail
 refine K.o.mono ?_
 rintro e G ⟨v,ok,rfl,⟨X,O,M,Q,U,N,V,R,S,T,rfl⟩,E,C,J,L⟩
 clear K
 have D:=zf G (.cells #[.int .i64 X,.slice O M Q,.bool U,.int .i64 N,.slice V R S,.bool T] 70)
 have j:=ze (J.below D)
 have m:=ze (zJ L D)
 have F:=ze D
 clear J L D
 cases hr:zl l with
 | none=>
   rw [hr] at E;subst E;have B:=ze (show yD l=4 by unfold yD;rw [hr]);clear C hr;go_wp2;go_ret;exact ⟨by rw [B.o];rfl,j.o,m.o⟩
 | some q=>
   rw [hr] at E;subst E;have u:=fun w' (h:Below G.heap.size G w')=>zgq _ q 12 w' ((C q hr).below h) (zh5 hr) (by omega) (by omega)
   by_cases y:yG 12 q
   . have B:=ze (show yD l=0 by unfold yD;rw [hr];exact if_pos y)
     rw [uE y] at u;have z:=ze u;clear C hr y u;go_wp2_with fail;refine (z.o _ F.o).mono ?_;rintro e w2 ⟨rfl,r⟩;replace j:=ze (j.o.below r);replace m:=ze (zJ m.o r);clear r z F;go_wp2;go_ret;exact ⟨by rw [B.o];rfl,j.o,m.o⟩
   have B:=ze (show yD l=3 by unfold yD;rw [hr];exact if_neg y)
   rw [uF y] at u;have z:=ze u;clear C hr y u;go_wp2_with fail;refine (z.o _ F.o).mono ?_;rintro e w2 ⟨rfl,r⟩;replace j:=ze (j.o.below r);replace m:=ze (zJ m.o r);clear r z F;go_wp2;go_ret;exact ⟨by rw [B.o];rfl,j.o,m.o⟩
theorem vq {S:Nat->Prop} (W:World):Hid (Chg S W W.drew):=Chg.of_below (zt W).out
theorem xR {S:Nat->Prop} {W w w' :World} (hb:Below w.heap.size w w') (h:Hid (Chg S W w)):Hid (Chg S W w'):=zJ h.out hb
theorem vS {S:Nat->Prop} {W w w' :World} (hb:Chg S w w') (h:Hid (Chg S W w)):Hid (Chg S W w'):=yn h.out hb
theorem xo {S:Nat->Prop} {W w:World} {p:Addr} {v:Value} (h:Hid (Chg S W w)) (hc:W.cell? p=some v) (hp:¬ S p.block):w.cell? p=some v:=h.out.cell hc hp
structure zjo (names:List (List UInt8)) (s:List UInt8):Prop where
 lt:names.idxOf s<names.length
 lo:∀ i (h:i<names.length),i<names.idxOf s->names[i]<s
 hi:∀ i (h:i<names.length),names.idxOf s<=i->¬ names[i]<s
theorem zjo.at_ {names:List (List UInt8)} {s:List UInt8} (h:zjo names s):names[names.idxOf s]'h.lt=s:=List.getElem_idxOf h.lt
def XS (sc:Int) (l:List zu) (t:Nat):Int:=Zt (qOf (l.getD t default).coef) sc
def zb8 (names:List (List UInt8)) (l:List zu) (t:Nat):Nat:=names.idxOf (l.getD t default).name
def zxf (names:List (List UInt8)) (b sc:Int) (l:List zu):Nat->Nat->Int
 | 0=>fun k=>if k=0 then b else 0
 | t+1=>fun k=>if k=1+2*zb8 names l t then -(XS sc l t) else if k=2+2*zb8 names l t then XS sc l t else zxf names b sc l t k
def xP (r:zU):Int:=ZB ((qOf r.bound).den:Int) r.terms r.terms.length
def ztg (names:List (List UInt8)) (r:zU):Nat->Int:=fun k=>
 if k=2*names.length+1 then 1 else zxf names (Zt (qOf r.bound) (xP r)) (xP r) r.terms r.terms.length k
def zwo (rows:List zU) (names:List (List UInt8)) (i:Nat):Nat->Int:=if i<rows.length then ztg names (rows.getD i default) else fun _=>0
def zy5 (nn:Nat) (i:Nat):Nat:=2*nn+i
def zwu (nn m:Nat) (k:Nat):Nat:=if k<2*nn then k else 2*nn+m
def zoz (rows:List zU) (i:Nat):Int:=xP (rows.getD i default)
def zsk (rows:List zU) (names:List (List UInt8)):yE:=⟨1,zwo rows names,zy5 names.length,zwu names.length rows.length⟩
structure zxr (names:List (List UInt8)) (r:zU):Prop where
 ok:zgi r.bound r.terms
 nm:∀ t∈r.terms,zjo names t.name
theorem XE (m:Nat) (f:Nat->Nat):xe m f ++ [.int .i64 (f m:Nat)]=xe (m+1) f:=by
 unfold xe
 rw [List.range_succ,List.map_append]
 rfl
theorem Z0.lt {w:World} {base n:Nat} {v:Value} {f:Nat->Int} (h:Z0 w base v n f):∀ c,v.ownBlock=some c->base<=c/\c<w.heap.size:=by
 obtain ⟨xs,b,_⟩:=h
 exact b.1.lt
theorem Z0.heap {w:World} {base n:Nat} {v:Value} {f:Nat->Int} (h:Z0 w base v n f) {c:Nat} (hc:v.ownBlock=some c):∃ cs,w.heap[c]?=some (.cells cs 68 (0,0)):=by
 obtain ⟨xs,b,_⟩:=h
 exact b.heap hc
theorem Z0.noDig {w:World} {base n:Nat} {v:Value} {f:Nat->Int} (h:Z0 w base v n f) {c:Nat} (hc:v.ownBlock=some c):ye w c:=by
 obtain ⟨xs,b,_⟩:=h
 exact b.2 c hc
def xN (b:Nat) (rv nv mv bv ov:Value):Array Value:=#[.map (some b),rv,nv,mv,.int .i64 1,.slice none 0 0,.bool false,bv,ov]
structure zbb (w0:World) (b m gt N:Nat) (rv nv:Value) (rows:List zU) (names:List (List UInt8)) (g:Nat->Nat) (i1 i2 i3 k:Nat) (mv bv ov sv:Value) (cs:Array Value) (w:World):Prop where
 blk:Blk w gt 152 cs
 cnd:Zi cs
 mat:Zl w0.heap.size w mv (2*names.length+2) i1 g (zwo rows names)
 bas:Zj w w0.heap.size 3 1 bv i2 (xe i2 (zy5 names.length))
 oth:Zj w w0.heap.size 3 1 ov k (xe k (zwu names.length m))
 scl:Z0 w w0.heap.size sv i3 (zoz rows)
 book:zv w b
 rws:zH w w0.heap.size rv rows
 nms:zw w w0.heap.size nv names
 chg:Chg (· =b) w0 w
 sne:∀ j,j<i1->sv.ownBlock≠some (g j)
 one:∀ c,bv.ownBlock=some c->ov.ownBlock≠some c
 lo:w0.heap.size<=gt
 top:N<=w.heap.size
 hb:b<w0.heap.size
 gtN:gt<N
 gN:∀ j,j<i1->g j<N
 oN:∀ c,mv.ownBlock=some c\/bv.ownBlock=some c\/ov.ownBlock=some c\/sv.ownBlock=some c->c<N
section
variable {w0 w w' :World} {b m gt N:Nat} {rv nv:Value} {rows:List zU} {names:List (List UInt8)} {g:Nat->Nat} {i1 i2 i3 k:Nat} {mv bv ov sv:Value} {cs:Array Value}
theorem zbb.far {S:Nat->Prop} (h:zbb w0 b m gt N rv nv rows names g i1 i2 i3 k mv bv ov sv cs w) (hc:Chg S w w') (hS:∀ x,S x->N<=x/\ye w x):zbb w0 b m gt N rv nv rows names g i1 i2 i3 k mv bv ov sv cs w' :=by
 have u:=h.lo
 have r:=h.gtN
 have y:=h.chg.size
 have l:∀ x,S x->ye w x:=fun x hx=>(hS x hx).2
 have j:∀ x,S x->N<=x:=fun x hx=>(hS x hx).1
 exact ⟨hc.blk h.blk (fun e=>by have:=j _ e;omega),h.cnd,h.mat.chg hc (fun i hi e=>by have:=j _ e;have:=h.gN i hi;omega) (fun c hc2 e=>by have:=j _ e;have:=h.oN c (.inl hc2);omega) l,
  h.bas.chg hc (fun c hc2 e=>by have:=j _ e;have:=h.oN c (.inr (.inl hc2));omega),h.oth.chg hc (fun c hc2 e=>by have:=j _ e;have:=h.oN c (.inr (.inr (.inl hc2)));omega),
  h.scl.chg hc (fun c hc2 e=>by have:=j _ e;have:=h.oN c (.inr (.inr (.inr hc2)));omega) l,h.book.chg hc (fun e=>by have:=j _ e;have:=h.hb;omega) l,
  h.rws.chg hc (fun x hx e=>by have:=j _ e;omega),h.nms.chg hc (fun x hx e=>by have:=j _ e;omega),h.chg.trans hc (fun x hx e=>by have:=j _ e;omega),
  h.sne,h.one,h.lo,uC h.top hc.size,h.hb,h.gtN,h.gN,h.oN⟩
theorem zbb.below (h:zbb w0 b m gt N rv nv rows names g i1 i2 i3 k mv bv ov sv cs w) (hb:Below w.heap.size w w'):zbb w0 b m gt N rv nv rows names g i1 i2 i3 k mv bv ov sv cs w' :=
 h.far (S:=fun _=>False) (Chg.of_below hb) (fun _ h=>h.elim)
theorem zbb.read (h:zbb w0 b m gt N rv nv rows names g i1 i2 i3 k mv bv ov sv cs w) (hc:Chg (· =b) w w') (hb:zv w' b):zbb w0 b m gt N rv nv rows names g i1 i2 i3 k mv bv ov sv cs w' :=by
 have j:∀ x,x=b->ye w x:=fun x e=>by subst e;exact h.book.noDig
 have r:=h.hb
 have l:=h.lo
 exact ⟨hc.blk h.blk (fun e=>by omega),h.cnd,h.mat.chg hc (fun i hi e=>by have:=(h.mat.rows i hi).1;omega) (fun c hc2 e=>by have:=(h.mat.own.1.lt c hc2).1;omega) j,
  h.bas.chg hc (fun c hc2 e=>by have:=(h.bas.1.lt c hc2).1;omega),h.oth.chg hc (fun c hc2 e=>by have:=(h.oth.1.lt c hc2).1;omega),
  h.scl.chg hc (fun c hc2 e=>by have:=(h.scl.lt c hc2).1;omega) j,hb,h.book.keepRows hc h.rws,h.nms.chg hc (fun _ _ e=>by subst e;exact h.book.noCells),yn h.chg hc,
  h.sne,h.one,h.lo,uC h.top hc.size,h.hb,h.gtN,h.gN,h.oN⟩
theorem Za {v:Value} (hg:w.grownBy w' v.ownBlock):Chg (fun b=>v.ownBlock=some b) w w' :=⟨hg.os,hg.tape,hg.output,hg.size,fun k hk hS=>hg.block k hk (fun e=>hS e.symm)⟩
theorem Yl {x:Nat} {cs1 cs2:Array Value} {t1 t2:TypeId} {f1 f2:Nat×Nat} (h1:w.heap[x]?=some (.cells cs1 t1 f1)) (h2:w.heap[x]?=some (.cells cs2 t2 f2)):t1=t2:=by
 rw [h1] at h2
 injection h2 with h2
 injection h2
theorem zbb.scales {sv' :Value} (h:zbb w0 b m gt N rv nv rows names g i1 i2 i3 k mv bv ov sv cs w) (hP:Z0 w' w0.heap.size sv' (i3+1) (zoz rows)) (hg:w.grownBy w' sv.ownBlock) (hat:sv'.ownBlock=sv.ownBlock\/sv'.ownBlock=some w.heap.size):
 zbb w0 b m gt w'.heap.size rv nv rows names g i1 i2 (i3+1) k mv bv ov sv' cs w' :=by
 have l:=Za hg
 have C:∀ x,sv.ownBlock=some x->ye w x:=fun x e=>h.scl.noDig e
 have z:∀ x e' v size n xs,e' ≠68->Zj w w0.heap.size e' size v n xs->v.ownBlock=some x->¬ sv.ownBlock=some x:=fun x e' v size n xs hne ho hx hs=>by
  obtain ⟨cs,y⟩:=h.scl.heap hs
  obtain ⟨G,D⟩:=ho.heap hx
  exact hne (Yl D y)
 have E:=h.hb
 have F:=h.lo
 have I:=h.top
 have J:=l.size
 have u:∀ x,sv.ownBlock=some x->w0.heap.size<=x:=fun x e=>(h.scl.lt x e).1
 refine ⟨l.blk h.blk (fun e=>?_),h.cnd,h.mat.chg l (fun i hi e=>h.sne i hi e) (fun c hc2 e=>z _ _ _ _ _ _ (by decide) h.mat.own hc2 e) C,
  h.bas.chg l (fun c hc2 e=>z _ _ _ _ _ _ (by decide) h.bas hc2 e),h.oth.chg l (fun c hc2 e=>z _ _ _ _ _ _ (by decide) h.oth hc2 e),hP,
  h.book.chg l (fun e=>by have:=u _ e;omega) C,h.rws.chg l (fun x hx e=>by have:=u _ e;omega),h.nms.chg l (fun x hx e=>by have:=u _ e;omega),
  h.chg.trans l (fun x hx e=>by have:=u _ e;omega),fun j hj e=>?_,h.one,h.lo,uA,h.hb,by have:=h.gtN;omega,fun j hj=>by have:=h.gN j hj;omega,fun c hc2=>?_⟩
 . obtain ⟨cs,y⟩:=h.scl.heap e
   exact xD h.blk y (by decide) rfl
 . rcases hat with B | B
   . exact h.sne j hj (by rw [<- B];exact e)
   . rw [B] at e;injection e with e;have:=h.gN j hj;omega
 . rcases hc2 with r | r | r | r
   . have:=h.oN c (.inl r);omega
   . have:=h.oN c (.inr (.inl r));omega
   . have:=h.oN c (.inr (.inr (.inl r)));omega
   . exact (hP.lt c r).2
theorem zbb.row {mv' :Value} {gl:Nat} {f:Nat->Int} (h:zbb w0 b m gt N rv nv rows names g i1 i2 i3 k mv bv ov sv cs w) (hr:xT w gl (2*names.length+2) (2*names.length+2) f) (hgl:N<=gl) (hf:∀ j,j<2*names.length+2->zwo rows names i1 j=f j)
 (hown:Zj w' w0.heap.size 143 1 mv' (i1+1) (((List.range i1).map fun i=>zm3 (2*names.length+2) (g i)) ++ [zm3 (2*names.length+2) gl])) (hg:w.grownBy w' mv.ownBlock):
 zbb w0 b m gt w'.heap.size rv nv rows names (fun i=>if i=i1 then gl else g i) (i1+1) i2 i3 k mv' bv ov sv cs w' :=by
 have l:=Za hg
 have J:=h.lo
 have G:=h.gtN
 have I:=h.hb
 have L:=h.top
 have M:=l.size
 have K:=hr.lt
 have D:∀ x,mv.ownBlock=some x->ye w x:=fun x e=>h.mat.own.2 x e
 have z:∀ x,mv.ownBlock=some x->w0.heap.size<=x:=fun x e=>(h.mat.own.1.lt x e).1
 have C:∀ x e' v size n xs,e' ≠143->Zj w w0.heap.size e' size v n xs->v.ownBlock=some x->¬ mv.ownBlock=some x:=fun x e' v size n xs hne ho hx hs=>by
  obtain ⟨cs,u⟩:=h.mat.own.heap hs
  obtain ⟨E,B⟩:=ho.heap hx
  exact hne (Yl B u)
 have F:=h.mat.push hr (by omega) (fun j hj=>by have:=h.gN j hj;omega) hown hg (fun j hj=>hf j hj)
 refine ⟨l.blk h.blk (fun e=>?_),h.cnd,F,h.bas.chg l (fun c hc2 e=>C _ _ _ _ _ _ (by decide) h.bas hc2 e),h.oth.chg l (fun c hc2 e=>C _ _ _ _ _ _ (by decide) h.oth hc2 e),
  h.scl.chg l (fun c hc2 e=>?_) D,h.book.chg l (fun e=>by have:=z _ e;omega) D,
  h.rws.chg l (fun x hx e=>by have:=z _ e;omega),h.nms.chg l (fun x hx e=>by have:=z _ e;omega),
  h.chg.trans l (fun x hx e=>by have:=z _ e;omega),fun j hj e=>?_,h.one,h.lo,uA,h.hb,by omega,fun j hj=>?_,fun c hc2=>?_⟩
 . obtain ⟨cs,u⟩:=h.mat.own.heap e
   exact xD h.blk u (by decide) rfl
 . obtain ⟨cs,u⟩:=h.mat.own.heap e
   obtain ⟨E,B⟩:=h.scl.heap hc2;exact absurd (Yl u B) (by decide)
 . by_cases y:j=i1
   rotate_left
   . simp only [if_neg y] at e
     exact h.sne j (by omega) e
   simp only [if_pos y] at e
   have:=h.oN _ (.inr (.inr (.inr e)))
   omega
 . by_cases y:j=i1
   . simp only [if_pos y];omega
   simp only [if_neg y];have:=h.gN j (by omega);omega
 . rcases hc2 with r | r | r | r
   . exact (hown.1.lt c r).2
   . have:=h.oN c (.inr (.inl r));omega
   . have:=h.oN c (.inr (.inr (.inl r)));omega
   . have:=h.oN c (.inr (.inr (.inr r)));omega
theorem zbb.basic {bv' :Value} (h:zbb w0 b m gt N rv nv rows names g i1 i2 i3 k mv bv ov sv cs w) (hown:Zj w' w0.heap.size 3 1 bv' (i2+1) (xe (i2+1) (zy5 names.length))) (hg:w.grownBy w' bv.ownBlock) (hat:bv'.ownBlock=bv.ownBlock\/bv'.ownBlock=some w.heap.size):
 zbb w0 b m gt w'.heap.size rv nv rows names g i1 (i2+1) i3 k mv bv' ov sv cs w' :=by
 have l:=Za hg
 have G:=h.lo
 have E:=h.gtN
 have F:=h.hb
 have I:=h.top
 have J:=l.size
 have C:∀ x,bv.ownBlock=some x->ye w x:=fun x e=>h.bas.2 x e
 have z:∀ x,bv.ownBlock=some x->w0.heap.size<=x:=fun x e=>(h.bas.1.lt x e).1
 refine ⟨l.blk h.blk (fun e=>?_),h.cnd,h.mat.chg l (fun i hi e=>?_) (fun c hc2 e=>?_) C,hown,h.oth.chg l (fun c hc2 e=>h.one c e hc2),
  h.scl.chg l (fun c hc2 e=>?_) C,h.book.chg l (fun e=>by have:=z _ e;omega) C,
  h.rws.chg l (fun x hx e=>by have:=z _ e;omega),h.nms.chg l (fun x hx e=>by have:=z _ e;omega),
  h.chg.trans l (fun x hx e=>by have:=z _ e;omega),h.sne,fun c hc2 e=>?_,h.lo,uA,h.hb,by omega,fun j hj=>by have:=h.gN j hj;omega,fun c hc2=>?_⟩
 . obtain ⟨cs,r⟩:=h.bas.heap e
   exact xD h.blk r (by decide) rfl
 . obtain ⟨cs,r⟩:=h.bas.heap e
   obtain ⟨D,y⟩:=(h.mat.rows i hi).2.heap;exact absurd (Yl r y) (by decide)
 . obtain ⟨cs,r⟩:=h.bas.heap e
   obtain ⟨D,y⟩:=h.mat.own.heap hc2;exact absurd (Yl r y) (by decide)
 . obtain ⟨cs,r⟩:=h.bas.heap e
   obtain ⟨D,y⟩:=h.scl.heap hc2;exact absurd (Yl r y) (by decide)
 . rcases hat with B | B
   . exact h.one c (by rw [<- B];exact hc2) e
   . rw [B] at hc2;injection hc2 with hc2;have:=h.oN c (.inr (.inr (.inl e)));omega
 . rcases hc2 with u | u | u | u
   . have:=h.oN c (.inl u);omega
   . exact (hown.1.lt c u).2
   . have:=h.oN c (.inr (.inr (.inl u)));omega
   . have:=h.oN c (.inr (.inr (.inr u)));omega
theorem zbb.other {ov' :Value} (h:zbb w0 b m gt N rv nv rows names g i1 i2 i3 k mv bv ov sv cs w) (hown:Zj w' w0.heap.size 3 1 ov' (k+1) (xe (k+1) (zwu names.length m))) (hg:w.grownBy w' ov.ownBlock) (hat:ov'.ownBlock=ov.ownBlock\/ov'.ownBlock=some w.heap.size):
 zbb w0 b m gt w'.heap.size rv nv rows names g i1 i2 i3 (k+1) mv bv ov' sv cs w' :=by
 have l:=Za hg
 have G:=h.lo
 have E:=h.gtN
 have F:=h.hb
 have I:=h.top
 have J:=l.size
 have C:∀ x,ov.ownBlock=some x->ye w x:=fun x e=>h.oth.2 x e
 have z:∀ x,ov.ownBlock=some x->w0.heap.size<=x:=fun x e=>(h.oth.1.lt x e).1
 refine ⟨l.blk h.blk (fun e=>?_),h.cnd,h.mat.chg l (fun i hi e=>?_) (fun c hc2 e=>?_) C,h.bas.chg l (fun c hc2 e=>h.one c hc2 e),hown,
  h.scl.chg l (fun c hc2 e=>?_) C,h.book.chg l (fun e=>by have:=z _ e;omega) C,
  h.rws.chg l (fun x hx e=>by have:=z _ e;omega),h.nms.chg l (fun x hx e=>by have:=z _ e;omega),
  h.chg.trans l (fun x hx e=>by have:=z _ e;omega),h.sne,fun c hc2 e=>?_,h.lo,uA,h.hb,by omega,fun j hj=>by have:=h.gN j hj;omega,fun c hc2=>?_⟩
 . obtain ⟨cs,r⟩:=h.oth.heap e
   exact xD h.blk r (by decide) rfl
 . obtain ⟨cs,r⟩:=h.oth.heap e
   obtain ⟨D,y⟩:=(h.mat.rows i hi).2.heap;exact absurd (Yl r y) (by decide)
 . obtain ⟨cs,r⟩:=h.oth.heap e
   obtain ⟨D,y⟩:=h.mat.own.heap hc2;exact absurd (Yl r y) (by decide)
 . obtain ⟨cs,r⟩:=h.oth.heap e
   obtain ⟨D,y⟩:=h.scl.heap hc2;exact absurd (Yl r y) (by decide)
 . rcases hat with B | B
   . exact h.one c hc2 (by rw [<- B];exact e)
   . rw [B] at e;injection e with e;have:=h.oN c (.inr (.inl hc2));omega
 . rcases hc2 with u | u | u | u
   . have:=h.oN c (.inl u);omega
   . have:=h.oN c (.inr (.inl u));omega
   . exact (hown.1.lt c u).2
   . have:=h.oN c (.inr (.inr (.inr u)));omega
theorem zbb.store (h:zbb w0 b m gt N rv nv rows names g i1 i2 i3 k mv bv ov sv cs w) (j:Nat) {u:Value} (hu:Yk u):zbb w0 b m gt N rv nv rows names g i1 i2 i3 k mv bv ov sv (cs.setIfInBounds j u) (w.setCell ⟨gt,j,none⟩ u):=by
 have G:=h.lo
 have E:=h.gtN
 have F:=h.hb
 have D:=h.top
 have l:Chg (· =gt) w (w.setCell ⟨gt,j,none⟩ u):=Chg.setCell (S:=(· =gt)) (Chg.refl w) (p:=⟨gt,j,none⟩) rfl _
 have y:∀ x,x=gt->ye w x:=fun x e=>by subst e;exact h.blk.noDig h.cnd
 have B:(w.setCell ⟨gt,j,none⟩ u).heap.size=w.heap.size:=by simp [World.setCell]
 have z:∀ x e' v size n xs,e' ≠152->Zj w w0.heap.size e' size v n xs->v.ownBlock=some x->¬ x=gt:=fun x e' v size n xs hne ho hx e=>by
  subst e
  obtain ⟨I,C⟩:=ho.heap hx
  exact xD h.blk C (fun e=>hne e.symm) rfl
 refine ⟨h.blk.set_ j u,xK h.cnd hu j,h.mat.chg l (fun i hi e=>?_) (fun c hc2 e=>z _ _ _ _ _ _ (by decide) h.mat.own hc2 e) y,h.bas.chg l (fun c hc2 e=>z _ _ _ _ _ _ (by decide) h.bas hc2 e),
  h.oth.chg l (fun c hc2 e=>z _ _ _ _ _ _ (by decide) h.oth hc2 e),h.scl.chg l (fun c hc2 e=>?_) y,h.book.chg l (fun e=>by omega) y,
  h.rws.chg l (fun x hx e=>by omega),h.nms.chg l (fun x hx e=>by omega),h.chg.trans l (fun x hx e=>by omega),h.sne,h.one,h.lo,by rw [B];exact D,h.hb,h.gtN,h.gN,h.oN⟩
 . obtain ⟨cs,r⟩:=(h.mat.rows i hi).2.heap
   rw [e] at r;exact xD h.blk r (by decide) rfl
 . subst e
   obtain ⟨cs,r⟩:=h.scl.heap hc2;exact xD h.blk r (by decide) rfl
end
theorem xS {P:Program} {w:World} {o:Oper} {a:Act} {K:Act->World->Prop} {Q:Exit->Act->World->Prop} (s x:Operand) (t:TypeId)
 (ho:o.op= .call { callee:=.builtin .append,args:=#[s,x],argTypes:=#[t,t] })
 (base:Nat) (e:TypeId) (i:TypeInfo) (z:Value) (size bytes:Nat) (ht:P.underlying t=some (.slice e)) (hi:P.info? e=some i) (hz:i.zero=some z)
 (hsize:i.size=size) (hby:i.bytes=bytes) (hzs:z.cells.size=size) (hsz:0<size)
 (v:Value) (n:Nat) (xs:List Value) (hs:a.eval s=v) (hown:Zj w base e size v n xs)
 (ad:Addr) (m c:Nat) (news:List Value) (hx:a.eval x= .slice (some ad) m c) (hl:news.length=m*size) (hm:0<m) (hnews:∀ j u,news[j]?=some u->w.cell? (ad.add j)=some u) (h1:∀ u∈news,u.oneCell' =true)
 (hno:∀ u∈news,Yk u) (hzn:∀ u∈z.cells,Yk u) (h63:n+m<=maxLen) (hbytes:(n+m)*bytes<=140737488355328) (hbase:base<=w.heap.size)
 (h:∀ b w',Zj w' base e size b (n+m) (xs ++ news)->w.grownBy w' v.ownBlock->(b.ownBlock=v.ownBlock\/b.ownBlock=some w.heap.size)->K (a.put o.dst b) w'):Oper.wp P o a w K Q:=by
 obtain ⟨b,w',l,r,B,y⟩:=Xi (P:=P) w base t o.type e i z size bytes ht hi hz hsize hby hzs hsz v n xs hown ad m c news hl hm hnews h1 hno hzn h63 hbytes hbase
 unfold Oper.wp execOp
 simp only [ho,resolve,invoke,builtin,Sem.run_bind,Sem.run_pure,Result.andThen_ok,List.map_toArray,List.map_cons,List.map_nil,hs,hx,l]
 exact h b w' r B y
theorem zo2 {z:Int}:(zO z 0>0)↔0<z:=by
 unfold zO
 split
 . omega
 split<;>omega
theorem yE.enter_yes {T:yE} {m n:Nat} {but:Int} (h1:(T.other n:Int)≠but) (h2:0<T.cell m (n+1)) (h3:T.enter m but n=0\/T.other n<T.other (T.enter m but n - 1)):T.enter m but (n+1)=n+1:=by
 show (if _ then _ else _)=_
 rw [if_pos ⟨h1,h2,h3⟩]
theorem yE.enter_no {T:yE} {m n:Nat} {but:Int} (h:¬ ((T.other n:Int)≠but/\0<T.cell m (n+1)/\(T.enter m but n=0\/T.other n<T.other (T.enter m but n - 1)))):T.enter m but (n+1)=T.enter m but n:=by
 show (if _ then _ else _)=_
 rw [if_neg h]
def EntR (w0:World) (base m L:Nat) (F:zZ) (T:yE) (but:Int) (bv kv:Value) (wr:World):Prop:=
 ∃ k n:Nat,k<=L/\Hid (k=n+1)/\kv= .int .i64 (k:Nat)/\bv= .int .i64 (T.enter m but n:Nat)/\Hid (yg base m L F wr T)/\Hid (Below w0.heap.size w0 wr)
theorem ze9 (base m L:Nat) (F:zZ) (T:yE) (C:Int) (w:World) (hT:yg base m L F w T) (hm:m<=100000) (hL:L<=100000):
 Calls prog 145 #[.pointer (some ⟨F.gt,0,none⟩),.int .i64 C] w (VE w (.int .i64 (T.enter m C (L - 1):Nat))):=by
 have t3:=hT.cell3
 have t1:=hT.cell1
 have t4:=hT.mat.cell (i:=m) (by omega)
 have ar:(m:Int)<(m:Int)+1:=by omega
 have l:=ze hT
 have aj:=ze hT.lt2
 clear hT
 go_in
 go_upto_region 2 with fail
 skip
 go_region
 skip
 have ae:=ze (l.o.below (zt w).out)
 have u:=zt w
 clear l t3 t1 t4
 generalize w.drew=W1 at ae u |-
 go_wp2_with fail
 skip
 go_loopw [5,7] (EntR w base m L F T C) (fun _ kv _=>L - (intOf kv).toNat)
 case atStart=>exact ⟨1,0,by have:=aj.o;omega,rfl,rfl,rfl,ae,u⟩
 case round=>
  clear ae u
  obtain ⟨k,n,hn,J,rfl,rfl,l,u⟩:=hrel
  have ap:0<k:=by have:=J.o;omega
  by_cases ah:k<L
  rotate_left
  . have ab:=J.o
    have ai:¬ (k:Int)<(L:Int):=by omega
    obtain rfl:n=L - 1:=by omega
    clear ab;go_wp2;go_ret;exact ⟨by go_num,u.o⟩
  have ai:(k:Int)<(L:Int):=by omega
  obtain ⟨D,co,eo,E,Y⟩:=l.o.others;have I:=l.o.cell8;rw [eo] at I;have ab:=J.o;have o1:=Y n (by omega);have ek:n=k - 1:=by omega
  have o1:wr.cell? ⟨D,k - 1,none⟩=some (.int .i64 (T.other n:Nat)):=by rw [<- ek];exact o1
  have au:(k:Int) - 1<((L - 1:Nat):Int):=by omega
  have am:(1:Int)<=(k:Int):=by omega
  have az:IntKind.i64.wrap ((k:Int) - 1)=(k:Int) - 1:=by rw [IntKind.wrap_i64];omega
  have ak:(0:Int)<=(k:Int) - 1:=by omega
  have ay:((k:Int) - 1).toNat=k - 1:=by omega
  have N:=l.o.lt;obtain ⟨ax,aA,an,Z,ag,a0,O,Q,ha⟩:=l.o.mat.at_ (i:=m) (k:=k) (by omega) ah;have r:=(l.o.mat.rows m (by omega)).2.lt;have af:=T.enter_le m C n;obtain ⟨b,V⟩:∃ b,Hid (T.enter m C n=b):=⟨_,rfl⟩;rw [V.o] at af |-;have av:b<k:=by omega
  rw [ab] at ha;have S:=ze ha;clear ha ab ek af
  skip
  by_cases M:(T.other n:Int)=C
  . have d1:((T.other n:Int) != C)=false:=by rw [bne_eq_false_iff_eq];exact M
    have U:Hid (T.enter m C (n+1)=b):=(T.enter_no fun h=>h.1 M).trans V.o;clear M
    go_upto_region 6 with fail
    skip
    have B:∀ w',Hid (Below wr.heap.size wr w')->w'.cell? ⟨F.gt,8,none⟩=some (.slice (some ⟨D,0,none⟩) (L - 1) co)/\w'.cell? ⟨D,k - 1,none⟩=some (.int .i64 (T.other n:Nat))/\w'.cell? ⟨F.g m,k*3,none⟩=some (.int .i64 ax)/\w'.cell? ⟨F.g m,k*3+1,none⟩=some (.slice aA an Z)/\w'.cell? ⟨F.g m,k*3+2,none⟩=some (.bool ag):=fun w' hB=>⟨zq hB N I,zq hB E o1,zq hB r a0,zq hB r O,zq hB r Q⟩
    refine xz B 11 29 40 (zt wr) fun j=>?_;simp only [xDR]
    iterate 11 refine yd ?_
    refine zQ ?_;refine sK 11 ?_;refine sK 12 ?_;refine sK 13 ?_;refine sK 14 ?_;refine sK 15 ?_;refine sK 16 ?_;refine tK 17 ?_;refine tK 18 ?_;refine sK 19 ?_;refine sK 20 ?_;refine sK 21 ?_;refine sK 22 ?_;refine sK 23 ?_;refine sK 24 ?_;refine sK 25 ?_;refine sK 26 ?_;refine sK 27 ?_;refine sK 28 ?_;refine sK 29 ?_;refine sK 30 ?_;refine sK 31 ?_;refine sK 32 ?_;refine sK 33 ?_;refine sK 34 ?_;refine sK 35 ?_;refine sK 36 ?_;refine sK 37 ?_;refine sK 38 ?_;refine sK 39 ?_;have y:=(j.1).out;replace l:=ze (yg.below l.o y);replace u:=eb_ u y;clear y j B;refine hdn ?_;simp only [xDR];clear I o1 a0 O Q S r N E Y;go_wp2;go_roundw
    case rel=>exact ⟨k+1,n+1,by omega,(ze (by have:=J.o;omega)),by go_num,(by rw [U.o]),l,u⟩
    case measure=>simp [intOf];omega
  have d1:((T.other n:Int) != C)=true:=by rw [bne_iff_ne];exact M
  obtain ⟨sg,ad⟩:∃ sg:Int,zO (T.cell m (n+1)) 0=sg:=⟨_,rfl⟩;have X:=zo2 (z:=T.cell m (n+1));rw [ad] at X;have al:=ze ad;have aa:=fun w' (h:zY w' (.agg #[.int .i64 ax,.slice aA an Z,.bool ag]) (T.cell m (n+1)))=>X9 _ _ w' h
  rw [ad] at aa;clear ad
  by_cases R:0<T.cell m (n+1)
  rotate_left
  . have d2:decide (sg>0)=false:=by rw [decide_eq_false_iff_not];exact fun h=>R (X.1 h)
    have U:Hid (T.enter m C (n+1)=b):=(T.enter_no fun h=>R h.2.1).trans V.o;clear M R X
    go_upto_region 6 with fail
    skip
    have B:∀ w',Hid (Below wr.heap.size wr w')->w'.cell? ⟨F.gt,8,none⟩=some (.slice (some ⟨D,0,none⟩) (L - 1) co)/\w'.cell? ⟨D,k - 1,none⟩=some (.int .i64 (T.other n:Nat))/\w'.cell? ⟨F.g m,k*3,none⟩=some (.int .i64 ax)/\w'.cell? ⟨F.g m,k*3+1,none⟩=some (.slice aA an Z)/\w'.cell? ⟨F.g m,k*3+2,none⟩=some (.bool ag):=fun w' hB=>⟨zq hB N I,zq hB E o1,zq hB r a0,zq hB r O,zq hB r Q⟩
    refine xz B 11 29 40 (zt wr) fun j=>?_;simp only [xDR]
    iterate 11 refine yd ?_
    refine zQ ?_;refine tK 11 ?_;refine tK 12 ?_;refine tK 13 ?_;refine tK 14 ?_;refine rK 15 fun K hK=>?_;rw [if_pos (by rfl)]
    go_simp
    go_at_call 98;refine (aa _ (S.o.below j.1.out)).mono ?_;rintro e w1 ⟨rfl,G⟩;refine hK.out _ _ (zo (zp G j.1) (B _)) ?_;clear hK K j;intro j
    try simp only [Act.put,xST]
    clear G;refine tK 16 ?_;refine tK 17 ?_;refine tK 18 ?_;refine sK 19 ?_;refine sK 20 ?_;refine sK 21 ?_;refine sK 22 ?_;refine sK 23 ?_;refine sK 24 ?_;refine sK 25 ?_;refine sK 26 ?_;refine sK 27 ?_;refine sK 28 ?_;refine sK 29 ?_;refine sK 30 ?_;refine sK 31 ?_;refine sK 32 ?_;refine sK 33 ?_;refine sK 34 ?_;refine sK 35 ?_;refine sK 36 ?_;refine sK 37 ?_;refine sK 38 ?_;refine sK 39 ?_;have y:=(j.1).out;replace l:=ze (yg.below l.o y);replace u:=eb_ u y;clear y j B;refine hdn ?_;simp only [xDR];clear I o1 a0 O Q S r N E Y;go_wp2;go_roundw
    case rel=>exact ⟨k+1,n+1,by omega,(ze (by have:=J.o;omega)),by go_num,(by rw [U.o]),l,u⟩
    case measure=>simp [intOf];omega
  have d2:decide (sg>0)=true:=by rw [decide_eq_true_iff];exact X.2 R
  by_cases h3:b=0
  . have d3:((b:Int) == 0)=true:=by rw [beq_iff_eq];omega
    have U:Hid (T.enter m C (n+1)=n+1):=T.enter_yes M R (.inl (V.o.trans h3));clear M R h3 X
    go_upto_region 6 with fail
    skip
    have B:∀ w',Hid (Below wr.heap.size wr w')->w'.cell? ⟨F.gt,8,none⟩=some (.slice (some ⟨D,0,none⟩) (L - 1) co)/\w'.cell? ⟨D,k - 1,none⟩=some (.int .i64 (T.other n:Nat))/\w'.cell? ⟨F.g m,k*3,none⟩=some (.int .i64 ax)/\w'.cell? ⟨F.g m,k*3+1,none⟩=some (.slice aA an Z)/\w'.cell? ⟨F.g m,k*3+2,none⟩=some (.bool ag):=fun w' hB=>⟨zq hB N I,zq hB E o1,zq hB r a0,zq hB r O,zq hB r Q⟩
    refine xz B 11 29 40 (zt wr) fun j=>?_;simp only [xDR]
    iterate 11 refine yd ?_
    refine zQ ?_;refine tK 11 ?_;refine tK 12 ?_;refine tK 13 ?_;refine tK 14 ?_;refine rK 15 fun K hK=>?_;rw [if_pos (by rfl)]
    go_simp
    go_at_call 98;refine (aa _ (S.o.below j.1.out)).mono ?_;rintro e w1 ⟨rfl,G⟩;refine hK.out _ _ (zo (zp G j.1) (B _)) ?_;clear hK K j;intro j
    try simp only [Act.put,xST]
    clear G;refine tK 16 ?_;refine tK 17 ?_;refine tK 18 ?_;refine tK 19 ?_;refine tK 20 ?_;refine tK 21 ?_;refine sK 22 ?_;refine sK 23 ?_;refine sK 24 ?_;refine sK 25 ?_;refine sK 26 ?_;refine sK 27 ?_;refine sK 28 ?_;refine sK 29 ?_;refine sK 30 ?_;refine sK 31 ?_;refine sK 32 ?_;refine sK 33 ?_;refine sK 34 ?_;refine sK 35 ?_;refine sK 36 ?_;refine sK 37 ?_;refine sK 38 ?_;refine tK 39 ?_;have y:=(j.1).out;replace l:=ze (yg.below l.o y);replace u:=eb_ u y;clear y j B;refine hdn ?_;simp only [xDR];clear I o1 a0 O Q S r N E Y;go_wp2;go_roundw
    case rel=>exact ⟨k+1,n+1,by omega,(ze (by have:=J.o;omega)),by go_num,(by rw [U.o,J.o]),l,u⟩
    case measure=>simp [intOf];omega
  have d3:((b:Int) == 0)=false:=by rw [beq_eq_false_iff_ne];omega
  have o2:=Y (b - 1) (by omega);have G:((b:Int) - 1).toNat=b - 1:=by omega
  have aw:(0:Int)<=(b:Int) - 1:=by omega
  have aq:(1:Int)<=(b:Int):=by omega
  have ao:IntKind.i64.wrap ((b:Int) - 1)=(b:Int) - 1:=by rw [IntKind.wrap_i64];omega
  have aB:(b:Int) - 1<((L - 1:Nat):Int):=by omega
  by_cases h4:T.other n<T.other (b - 1)
  . have d4:decide ((T.other n:Int)<(T.other (b - 1):Int))=true:=by rw [decide_eq_true_iff];omega
    have d5:decide (T.other n<T.other (b - 1))=true:=uE h4;have U:Hid (T.enter m C (n+1)=n+1):=T.enter_yes M R (.inr (by rw [V.o];exact h4));clear M R h3 X
    go_upto_region 6 with fail
    skip
    have B:∀ w',Hid (Below wr.heap.size wr w')->w'.cell? ⟨F.gt,8,none⟩=some (.slice (some ⟨D,0,none⟩) (L - 1) co)/\w'.cell? ⟨D,k - 1,none⟩=some (.int .i64 (T.other n:Nat))/\w'.cell? ⟨F.g m,k*3,none⟩=some (.int .i64 ax)/\w'.cell? ⟨F.g m,k*3+1,none⟩=some (.slice aA an Z)/\w'.cell? ⟨F.g m,k*3+2,none⟩=some (.bool ag)/\w'.cell? ⟨D,b - 1,none⟩=some (.int .i64 (T.other (b - 1):Nat)):=fun w' hB=>⟨zq hB N I,zq hB E o1,zq hB r a0,zq hB r O,zq hB r Q,zq hB E o2⟩
    refine xz B 11 29 40 (zt wr) fun j=>?_;simp only [xDR]
    iterate 11 refine yd ?_
    refine zQ ?_;refine tK 11 ?_;refine tK 12 ?_;refine tK 13 ?_;refine tK 14 ?_;refine rK 15 fun K hK=>?_;rw [if_pos (by rfl)]
    go_simp
    go_at_call 98;refine (aa _ (S.o.below j.1.out)).mono ?_;rintro e w1 ⟨rfl,G⟩;refine hK.out _ _ (zo (zp G j.1) (B _)) ?_;clear hK K j;intro j
    try simp only [Act.put,xST]
    clear G;refine tK 16 ?_;refine tK 17 ?_;refine tK 18 ?_;refine tK 19 ?_;refine tK 20 ?_;refine tK 21 ?_;refine tK 22 ?_;refine tK 23 ?_;refine tK 24 ?_;refine tK 25 ?_;refine tK 26 ?_;refine tK 27 ?_;refine tK 28 ?_;refine tK 29 ?_;refine tK 30 ?_;refine tK 31 ?_;refine tK 32 ?_;refine tK 33 ?_;refine tK 34 ?_;refine tK 35 ?_;refine tK 36 ?_;refine tK 37 ?_;refine tK 38 ?_;refine tK 39 ?_;have y:=(j.1).out;replace l:=ze (yg.below l.o y);replace u:=eb_ u y;clear y j B;refine hdn ?_;simp only [xDR];clear I o1 a0 O Q S r N E Y;go_wp2;go_roundw
    case rel=>exact ⟨k+1,n+1,by omega,(ze (by have:=J.o;omega)),by go_num,(by rw [U.o,J.o]),l,u⟩
    case measure=>simp [intOf];omega
  have d4:decide ((T.other n:Int)<(T.other (b - 1):Int))=false:=by rw [decide_eq_false_iff_not];omega
  have d5:decide (T.other n<T.other (b - 1))=false:=uF h4
  have U:Hid (T.enter m C (n+1)=b):=(T.enter_no fun h=>by
   rcases h.2.2 with h5 | h5
   . exact h3 (V.o.symm.trans h5)
   . rw [V.o] at h5;exact h4 h5).trans V.o
  clear M R h3 X
  go_upto_region 6 with fail
  skip
  have B:∀ w',Hid (Below wr.heap.size wr w')->w'.cell? ⟨F.gt,8,none⟩=some (.slice (some ⟨D,0,none⟩) (L - 1) co)/\w'.cell? ⟨D,k - 1,none⟩=some (.int .i64 (T.other n:Nat))/\w'.cell? ⟨F.g m,k*3,none⟩=some (.int .i64 ax)/\w'.cell? ⟨F.g m,k*3+1,none⟩=some (.slice aA an Z)/\w'.cell? ⟨F.g m,k*3+2,none⟩=some (.bool ag)/\w'.cell? ⟨D,b - 1,none⟩=some (.int .i64 (T.other (b - 1):Nat)):=fun w' hB=>⟨zq hB N I,zq hB E o1,zq hB r a0,zq hB r O,zq hB r Q,zq hB E o2⟩
  refine xz B 11 29 40 (zt wr) fun j=>?_;simp only [xDR]
  iterate 11 refine yd ?_
  refine zQ ?_;refine tK 11 ?_;refine tK 12 ?_;refine tK 13 ?_;refine tK 14 ?_;refine rK 15 fun K hK=>?_;rw [if_pos (by rfl)]
  go_simp
  go_at_call 98;refine (aa _ (S.o.below j.1.out)).mono ?_;rintro e w1 ⟨rfl,G⟩;refine hK.out _ _ (zo (zp G j.1) (B _)) ?_;clear hK K j;intro j
  try simp only [Act.put,xST]
  clear G;refine tK 16 ?_;refine tK 17 ?_;refine tK 18 ?_;refine tK 19 ?_;refine tK 20 ?_;refine tK 21 ?_;refine tK 22 ?_;refine tK 23 ?_;refine tK 24 ?_;refine tK 25 ?_;refine tK 26 ?_;refine tK 27 ?_;refine tK 28 ?_;refine tK 29 ?_;refine tK 30 ?_;refine tK 31 ?_;refine tK 32 ?_;refine tK 33 ?_;refine tK 34 ?_;refine tK 35 ?_;refine tK 36 ?_;refine tK 37 ?_;refine tK 38 ?_;refine tK 39 ?_;have y:=(j.1).out;replace l:=ze (yg.below l.o y);replace u:=eb_ u y;clear y j B;refine hdn ?_;simp only [xDR];clear I o1 a0 O Q S r N E Y;go_wp2;go_roundw
  case rel=>exact ⟨k+1,n+1,by omega,(ze (by have:=J.o;omega)),by go_num,(by rw [U.o]),l,u⟩
  case measure=>simp [intOf];omega
end Go.Proofs.YtnjljgidphemdaaGreatDoor
