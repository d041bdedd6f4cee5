/- Parts of the proof. -/
import Derived.Test.YtofmkndhocinmaaGreatDoorMs16
import Derived.Test.YtofmkndhocinmaaGreatDoorMs17
set_option linter.all false
set_option maxRecDepth 100000
set_option maxHeartbeats 32000000
namespace Go.Proofs.YtofmkndhocinmaaGreatDoor
open Proofs.Tryz Go.RowKit Go.Deep
attribute [local go_sem ↓] Go.wp_at_zero Go.wp_at_succ
def vQ (q:Rat) (z:Int):Int:=q.num*z.tdiv q.den
theorem zo8 {z y:Int} {M:Nat} (h:len 4294967296 z.natAbs<=M):len 4294967296 (z.tdiv y).natAbs<=M:=by
 rw [Int.natAbs_tdiv]
 exact uC (Yp (by omega) (Nat.div_le_self _ _)) h
theorem zba (va vn:Value) (q:Rat) (z:Int) (w:World) (ha:zE w va q) (hn:zM w vn z) (hq:xS 8388608 q) (hz:len 4294967296 z.natAbs<=33554432):
 Calls prog 109 #[va,vn] w (ZX w (vQ q z)):=by
 obtain ⟨J,y,k1,c1,s1,u,E,B,C,D,rfl,ad,ag⟩:=ha
 obtain ⟨F,G,k2,c2,s2,rfl,_,_,_⟩:=hn.form
 obtain ⟨r,ah,HN⟩:=hz3 ad ag hn
 have aj:=ze hq.1
 have ai:=ze hq.2
 have HZ:=ze hz
 have HD:Hid ((q.den:Int)≠0):=by have:=q.den_nz;show (q.den:Int)≠0;omega
 obtain ⟨W0,K⟩:∃ x,x=((w.alloc (.cells #[.int .i64 J,.slice y k1 c1,.bool s1,.int .i64 u,.slice E B C,.bool D] 62)).alloc (.cells #[.int .i64 F,.slice G k2 c2,.bool s2] 60)).alloc (.cells #[.int .i64 0,.slice none 0 0,.bool false] 60):=⟨_,rfl⟩
 have X:=((Blk.new w 62 #[.int .i64 J,.slice y k1 c1,.bool s1,.int .i64 u,.slice E B C,.bool D]).alloc (.cells #[.int .i64 F,.slice G k2 c2,.bool s2] 60)).alloc (.cells #[.int .i64 0,.slice none 0 0,.bool false] 60)
 have V:=(Blk.new (w.alloc (.cells #[.int .i64 J,.slice y k1 c1,.bool s1,.int .i64 u,.slice E B C,.bool D] 62)) 60 #[.int .i64 F,.slice G k2 c2,.bool s2]).alloc (.cells #[.int .i64 0,.slice none 0 0,.bool false] 60)
 have R:=Blk.new ((w.alloc (.cells #[.int .i64 J,.slice y k1 c1,.bool s1,.int .i64 u,.slice E B C,.bool D] 62)).alloc (.cells #[.int .i64 F,.slice G k2 c2,.bool s2] 60)) 60 #[.int .i64 0,.slice none 0 0,.bool false]
 have hW:=ext (ext (zf w (.cells #[.int .i64 J,.slice y k1 c1,.bool s1,.int .i64 u,.slice E B C,.bool D] 62)) (zf _ (.cells #[.int .i64 F,.slice G k2 c2,.bool s2] 60))) (zf _ (.cells #[.int .i64 0,.slice none 0 0,.bool false] 60))
 simp only [World.size_alloc] at V R
 rw [<- K] at X V R hW
 obtain ⟨m,b,j⟩:=hz3 X R hW
 have ae:=ze (show W0.heap.size=w.heap.size+3 by rw [K];simp only [World.size_alloc])
 clear ad ag hn hq hz X V R hW
 go_in
 go_wp2_with fail
 rw [<- K]
 clear K
 refine (VB _ _ _ _ _ (HN.o.below j.o) (ah.o.below j.o) HD.o HZ.o (uC ai.o (by omega))).mono ?_
 rintro e w1 ⟨v,v',rfl,hv,af,I⟩
 obtain ⟨x3,A3,k3,c3,s3,rfl,_,_,_⟩:=hv.form
 obtain ⟨Y,A4,k4,c4,U,rfl,_,_,_⟩:=af.form
 replace m:=kb_ m I
 replace b:=kb_ b I
 replace j:=eb_ j I
 replace r:=ze (r.o.below j.o)
 have S:=ze hv
 have am:Hid (w.heap.size+3<=w1.heap.size):=by have:=ae.o;have:=I.size;show _<=_;omega
 clear hv af I ae HN ah
 obtain ⟨W1,Z⟩:∃ x,x=(w1.alloc (.cells #[.int .i64 x3,.slice A3 k3 c3,.bool s3] 60)).alloc (.cells #[.int .i64 Y,.slice A4 k4 c4,.bool U] 60):=⟨_,rfl⟩
 have l:=ext (zf w1 (.cells #[.int .i64 x3,.slice A3 k3 c3,.bool s3] 60)) (zf _ (.cells #[.int .i64 Y,.slice A4 k4 c4,.bool U] 60))
 have ab:=(Blk.new w1 60 #[.int .i64 x3,.slice A3 k3 c3,.bool s3]).alloc (.cells #[.int .i64 Y,.slice A4 k4 c4,.bool U] 60)
 rw [<- Z] at l ab
 replace m:=kb_ m l
 replace b:=kb_ b l
 replace j:=eb_ j l
 replace r:=ze (r.o.below l)
 replace S:=ze (S.o.below l)
 clear l
 go_upto_region 2 with fail
 rw [<- Z]
 clear Z;obtain ⟨r0,r1,r2,_⟩:=bq3 m;obtain ⟨q0,q1,q2,_⟩:=bp3 ab;clear ab
 go_wp2_with fail
 refine (xi _ _ _ _ _ r.o S.o (uC aj.o (by omega)) (zo8 (uC HZ.o (by omega)))).mono ?_
 rintro e w2 ⟨v2,rfl,aa,ac⟩
 obtain ⟨Q,M,L,O,T,rfl,_,_,_⟩:=aa.form
 replace b:=kb_ b ac
 replace j:=eb_ j ac
 clear m r S r0 r1 r2 q0 q1 q2 ac;have z0:=b.o.cell 0;have z1:=b.o.cell 1;have z2:=b.o.cell 2;obtain ⟨f0,f1,f2⟩:=fq3 b;simp at z0 z1 z2
 have N:=yo (x:=Q) (A:=M) (k:=L) (c:=O) (ng:=T) b.o
 have e0:=N.cell 0;have e1:=N.cell 1;have e2:=N.cell 2
 simp only [World.num] at e0 e1 e2
 simp at e0 e1 e2
 have ak:=ze (zy (x:=Q) (A:=M) (k:=L) (c:=O) (ng:=T) aa b.o)
 have al:=ze (zI (x:=Q) (A:=M) (k:=L) (c:=O) (ng:=T) j.o (show w.heap.size<=w.heap.size+1+1 by omega))
 clear N aa
 go_wp2_with fail
 refine bodyPost_ret (v:=.agg #[.int .i64 Q,.slice M L O,.bool T]) (by simp [results,results109,go_sem,e0,e1,e2]) rfl ?_
 exact ⟨_,rfl,ak.o,al.o⟩
def qOf (l:List UInt8):Rat:=(zj l).getD 0
theorem Xt {l:List UInt8} (h:(zj l).isSome=true):zj l=some (qOf l):=by
 obtain ⟨q,b⟩:=Option.isSome_iff_exists.1 h
 rw [b];unfold qOf;rw [b];rfl
def Zs (d:Int) (l:List zm):Nat->Int
 | 0=>d
 | n+1=>Zs d l n*(Rat.divInt ((qOf (l.getD n default).coef).den:Int) (Zs d l n)).num
def zvo (l:List zm):Prop:=∀ t∈l,(zj t.coef).isSome=true/\xS 8388608 (qOf t.coef)
structure zdv (bound:List UInt8) (l:List zm):Prop where
 bsome:(zj bound).isSome=true
 blen:xS 8388608 (qOf bound)
 good:zvo l
 nlen:∀ n,n<l.length->len 4294967296 (Rat.divInt ((qOf (l.getD n default).coef).den:Int) (Zs ((qOf bound).den:Int) l n)).num.natAbs<=67108864
 fit:∀ n,n<=l.length->Fit (Zs ((qOf bound).den:Int) l n)/\Zs ((qOf bound).den:Int) l n≠0
def zua (b:Nat) (z:Int) (w:World) (e:Ending) (w' :World):Prop:=∃ v,e= .returned v/\zM w' v z/\zr w' b/\Chg (· =b) w w'
def SclR (w0:World) (b gr gd B:Nat) (tv:Value) (l:List zm) (d:Int) (kv:Value) (wr:World):Prop:=
 ∃ k:Nat,k<=l.length/\kv= .int .i64 k/\Hid (ZD wr gd (Zs d l k))/\Hid (ZD wr gr 0)/\Hid (zr wr b)/\Hid (zi wr B tv l)/\Hid (Chg (· =b) w0 wr)
theorem zr.keepBox {w w' :World} {b g:Nat} {z:Int} (h:zr w b) (hc:Chg (· =b) w w') (hk:ZD w g z):ZD w' g z:=by
 obtain ⟨x,A,n,c,ng,e,j⟩:=hk
 exact ⟨x,A,n,c,ng,h.keepBlk hc e,h.keepN hc j⟩
theorem zC {S:Nat->Prop} {w w1 w2:World} (h:Chg S w w1) (hb:Below w1.heap.size w1 w2):Chg S w w2:=h.trans (Chg.of_below (S:=S) hb) (fun _ _ h=>h)
theorem yg {S:Nat->Prop} {w w1 w2:World} (h:Chg S w w1) (k:Chg S w1 w2):Chg S w w2:=h.trans k (fun _ _ h=>h)
theorem zE.parts {w:World} {x y:Int} {A B:Option Addr} {k c k' c' :Nat} {s t:Bool} {q:Rat} (h:zE w (.agg #[.int .i64 x,.slice A k c,.bool s,.int .i64 y,.slice B k' c',.bool t]) q):
 zM w (.agg #[.int .i64 x,.slice A k c,.bool s]) q.num/\zM w (.agg #[.int .i64 y,.slice B k' c',.bool t]) (q.den:Int):=by
 obtain ⟨z,A',k1,c1,l,u,m,k2,c2,r,e,j,b⟩:=h
 simp only [Value.agg.injEq,Array.mk.injEq,List.cons.injEq,Value.int.injEq,Value.slice.injEq,Value.bool.injEq,and_true,true_and] at e
 obtain ⟨rfl,⟨rfl,rfl,rfl⟩,rfl,rfl,⟨rfl,rfl,rfl⟩,rfl⟩:=e
 exact ⟨j,b⟩
theorem zdg (b:Nat) (A:Option Addr) (n c:Nat) (bound:List UInt8) (l:List zm) (w:World) (hB:zr w b) (ht:zZ w (.slice A n c) l) (hs:zB bound) (R:zdv bound l):
 Calls prog 108 #[.map (some b),.agg #[.slice A n c,str bound]] w (zua b (Zs ((qOf bound).den:Int) l l.length) w):=by
 obtain rfl:=ht.len
 have ag:=ht.bound
 have ah:=ze R
 have HS:=ze hs
 obtain ⟨W0,av⟩:∃ x,x=(w.alloc (.cells #[.slice A l.length c,str bound] 36)).alloc (.cells #[.int .i64 0,.slice none 0 0,.bool false] 60):=⟨_,rfl⟩
 have j:=ext (zf w (.cells #[.slice A l.length c,str bound] 36)) (zf _ (.cells #[.int .i64 0,.slice none 0 0,.bool false] 60))
 have aA:=(Blk.new w 36 #[.slice A l.length c,str bound]).alloc (.cells #[.int .i64 0,.slice none 0 0,.bool false] 60)
 have ae:=Blk.new (w.alloc (.cells #[.slice A l.length c,str bound] 36)) 60 #[.int .i64 0,.slice none 0 0,.bool false]
 simp only [World.size_alloc] at ae
 rw [<- av] at j aA ae
 have aJ:=ze hB.lt
 have m:=ze (hB.below j)
 have B:=ze (zi.below ht j)
 have O:=ze aA
 have r:Hid (ZD W0 (w.heap.size+1) 0):=⟨_,_,_,_,_,ae,ziu _ _⟩
 have u:Hid (Chg (· =b) w W0):=Chg.of_below j
 have az:=fun w' (h:zr w' b) (s:List UInt8) (hs:zB s)=>xK b ⟨s.toArray⟩ w' h (by rw [<- zq,xf];exact hs)
 simp only [xf] at az
 have aI:=ze az
 clear hB ht R hs j aA ae az
 go_in
 go_wp2_with fail
 rw [<- av]
 clear av
 refine (aI.o _ m.o bound HS.o).mono ?_
 rintro e w1 ⟨v,ok,rfl,⟨x1,A1,k1,c1,s1,T,Q,U,Y,X,rfl⟩,R,hq,Z,D⟩
 have ab:=hq _ (Xt ah.o.bsome)
 replace B:=ze (m.o.keepT D B.o)
 replace O:=ze (m.o.keepBlk D O.o)
 replace r:=ze (m.o.keepBox D r.o)
 replace u:=ze (yg u.o D)
 replace m:=ze Z
 have N:=ze ab
 have aW:Hid (w.heap.size<=w1.heap.size):=u.o.size
 clear Z D hq R ab
 skip
 obtain ⟨W1,au⟩:∃ x,x=(w1.alloc (.cells #[.int .i64 x1,.slice A1 k1 c1,.bool s1,.int .i64 T,.slice Q U Y,.bool X] 62)).alloc (.cells #[.int .i64 T,.slice Q U Y,.bool X] 60):=⟨_,rfl⟩
 have j:=ext (zf w1 (.cells #[.int .i64 x1,.slice A1 k1 c1,.bool s1,.int .i64 T,.slice Q U Y,.bool X] 62)) (zf _ (.cells #[.int .i64 T,.slice Q U Y,.bool X] 60))
 have C:=Blk.new (w1.alloc (.cells #[.int .i64 x1,.slice A1 k1 c1,.bool s1,.int .i64 T,.slice Q U Y,.bool X] 62)) 60 #[.int .i64 T,.slice Q U Y,.bool X]
 simp only [World.size_alloc] at C
 rw [<- au] at j C
 have y:Hid (ZD W1 (w1.heap.size+1) (Zs ((qOf bound).den:Int) l 0)):=⟨_,_,_,_,_,C,N.o.parts.2.below j⟩
 have aw:Hid (w.heap.size+1≠w1.heap.size+1):=by have:=r.o.lt;show _≠_;omega
 replace m:=ze (m.o.below j)
 replace B:=ze (zi.below B.o j)
 replace O:=kb_ O j
 replace r:=ze (r.o.below j)
 replace u:=ze (zC u.o j)
 clear j C N
 go_upto_region 3 with fail
 rw [<- au]
 clear au
 have aP:Hid (w.heap.size<=w1.heap.size+1):=by have:=aW.o;show _<=_;omega
 generalize w1.heap.size+1=gd at y aw aP |-
 have r0:=(bq1 O).1
 go_wp2_with fail
 obtain ⟨gr,an⟩:=uQ (w.heap.size+1)
 rw [<- an] at r aw |-
 have aS:Hid (w.heap.size<=gr):=by show _<=_;omega
 clear an r0 O
 obtain ⟨d,am⟩:∃ d,Hid (((qOf bound).den:Int)=d):=⟨_,rfl⟩
 rw [am.o] at y |-
 go_loopw [25] (SclR w b gr gd w.heap.size (.slice A l.length c) l d) (fun kv _=>l.length - (intOf kv).toNat)
 case atStart=>exact ⟨0,uB,rfl,y,r,m,B,u⟩
 case round=>
  clear y r m B u
  obtain ⟨k,hk,rfl,y,r,m,B,u⟩:=hrel
  by_cases ak:k<l.length
  rotate_left
  . obtain rfl:k=l.length:=by omega
    obtain ⟨I,K,G,J,dg,C,hdn⟩:=y.o;have d0:=C.cell 0;have d1:=C.cell 1;have M:=C.cell 2;obtain ⟨zx,zA,zn,zc,zg,L,aR⟩:=r.o;have z0:=L.cell 0;have z1:=L.cell 1;have z2:=L.cell 2;obtain ⟨f0,f1,f2⟩:=fp3 L;simp at d0 d1 M z0 z1 z2;have af:=yo (x:=I) (A:=K) (k:=G) (c:=J) (ng:=dg) L;have e0:=af.cell 0;have e1:=af.cell 1;have e2:=af.cell 2;simp only [World.num] at e0 e1 e2;simp at e0 e1 e2;have ac:=L.noDig (Xq _ _ _ _ _);have hS:∀ z,z=gr->zK wr z:=fun z e=>by subst e;exact ac
    have E:=Z8 (w:=wr) (g:=gr) (x:=I) (A:=K) (n:=G) (c:=J) (ng:=dg);have an:=aS.o;have ag:=aJ.o;have HV:=ze (zy (x:=I) (A:=K) (k:=G) (c:=J) (ng:=dg) hdn L);have al:=ze (m.o.chg E (by omega) hS);have ai:Hid (Chg (· =b) w (World.num wr gr I K G J dg)):=u.o.trans E (fun z hz e=>by omega);clear y r m B u C hdn L aR af ac hS E an ag;go_wp2_with fail;refine bodyPost_ret (v:=.agg #[.int .i64 I,.slice K G J,.bool dg]) (by simp [results,results108,go_sem,e0,e1,e2]) rfl ?_;exact ⟨_,rfl,by rw [am.o];exact HV.o,al.o,ai.o⟩
  have aY:(k:Int)<(l.length:Int):=by omega
  obtain ⟨ad,eA,aQ,p0,p1,aV,aF⟩:=B.o.at_ ak;subst eA;have j:=zf wr (.cells #[str l[k].name,str l[k].coef] 38);have aj:=ze (Blk.new wr 38 #[str l[k].name,str l[k].coef]);replace y:=ze (y.o.below j);replace r:=ze (r.o.below j);replace m:=ze (m.o.below j);replace B:=ze (zi.below B.o j);replace u:=ze (zC u.o j);have aT:=ze aF;have aD:=xGD (d:=default) ak;have aE:=ah.o.good l[k] (uO ak);have HG:=ze aE;have aM:=ze aD;clear j aV aF aD aE
  go_upto_region 6 with fail
  clear p0 p1 aQ;generalize wr.alloc (.cells #[str l[k].name,str l[k].coef] 38)=WL at aj y r m B u |-;generalize wr.heap.size=gt at aj |-;have p1:=aj.o.cell 1;simp at p1;go_wp2_with fail;refine (aI.o _ m.o _ aT.o).mono ?_;rintro e w2 ⟨v,ok,rfl,⟨x2,A2,k2,c2,s2,y2,B2,ap,ao,t2,rfl⟩,R,hq,Z,D⟩;have ab:=hq _ (Xt HG.o.1);replace B:=ze (m.o.keepT D B.o);replace y:=ze (m.o.keepBox D y.o);replace r:=ze (m.o.keepBox D r.o);replace u:=ze (yg u.o D);replace m:=ze Z;have j:=zf w2 (.cells #[.int .i64 x2,.slice A2 k2 c2,.bool s2,.int .i64 y2,.slice B2 ap ao,.bool t2] 62);have V:=ze (Blk.new w2 62 #[.int .i64 x2,.slice A2 k2 c2,.bool s2,.int .i64 y2,.slice B2 ap ao,.bool t2]);replace y:=ze (y.o.below j);replace r:=ze (r.o.below j);replace m:=ze (m.o.below j);replace B:=ze (zi.below B.o j);replace u:=ze (zC u.o j);have N:=ze (ab.below j);clear j Z D hq R ab p1 aj
  go_upto_region 7 with fail
  generalize w2.alloc (.cells #[.int .i64 x2,.slice A2 k2 c2,.bool s2,.int .i64 y2,.slice B2 ap ao,.bool t2] 62)=W2 at V y r m B u N |-;generalize w2.heap.size=gc at V |-;have p3:=V.o.cell 3;have p4:=V.o.cell 4;have p5:=V.o.cell 5;obtain ⟨I,K,G,J,dg,C,hdn⟩:=y.o;obtain ⟨d0,d1,M,_⟩:=bp3 C;simp at p3 p4 p5;have aa:=ze hdn;have ax:=ah.o.fit k hk;rw [am.o] at ax;have ay:=ze ax;clear C hdn ax;go_wp2_with fail;refine (ZG _ _ _ _ _ N.o.parts.2 aa.o ay.o.2 (uC HG.o.2.2 (by omega)) (uC ay.o.1 (by omega))).mono ?_;rintro e w3 ⟨v,rfl,hv,F⟩;have j:=F;replace y:=ze (y.o.below j);replace r:=ze (r.o.below j);replace m:=ze (m.o.below j);replace B:=ze (zi.below B.o j);replace u:=ze (zC u.o j);clear j F p3 p4 p5 d0 d1 M V aa N;obtain ⟨x3,A3,k3,c3,s3,y3,B3,aC,aq,t3,rfl,aH,aU⟩:=hv;have j:=zf w3 (.cells #[.int .i64 x3,.slice A3 k3 c3,.bool s3,.int .i64 y3,.slice B3 aC aq,.bool t3] 62)
  have S:=ze (Blk.new w3 62 #[.int .i64 x3,.slice A3 k3 c3,.bool s3,.int .i64 y3,.slice B3 aC aq,.bool t3]);replace y:=ze (y.o.below j);replace r:=ze (r.o.below j);replace m:=ze (m.o.below j);replace B:=ze (zi.below B.o j);replace u:=ze (zC u.o j);have ar:=ze (aH.below j);clear j aH aU
  go_upto_region 8 with fail
  generalize w3.alloc (.cells #[.int .i64 x3,.slice A3 k3 c3,.bool s3,.int .i64 y3,.slice B3 aC aq,.bool t3] 62)=W3 at S y r m B u ar |-;generalize w3.heap.size=gq at S |-;have p0:=S.o.cell 0;have p1:=S.o.cell 1;have p2:=S.o.cell 2;obtain ⟨I,K,G,J,dg,C,hdn⟩:=y.o;obtain ⟨d0,d1,M,_⟩:=bp3 C;simp at p0 p1 p2;have aa:=ze hdn;have aB:=ah.o.nlen k ak;rw [am.o,aM.o] at aB;have aN:=ze aB;clear C hdn aB;go_wp2_with fail;refine (xi _ _ _ _ _ aa.o ar.o (uC ay.o.1 (by omega)) aN.o).mono ?_;rintro e w4 ⟨v,rfl,hv,F⟩;replace y:=ze (y.o.below F);replace r:=ze (r.o.below F);replace m:=ze (m.o.below F);replace B:=ze (zi.below B.o F);replace u:=ze (zC u.o F);clear F p0 p1 p2 d0 d1 M S aa ar aN;obtain ⟨x5,A5,k5,c5,s5,rfl,_,_,_⟩:=hv.form;obtain ⟨I,K,G,J,dg,C,hdn⟩:=y.o;have d0:=C.cell 0;have d1:=C.cell 1;have M:=C.cell 2;obtain ⟨f0,f1,f2⟩:=fp3 C;simp at d0 d1 M
  have ac:=C.noDig (Xq _ _ _ _ _);have hS:∀ z,z=gd->zK w4 z:=fun z e=>by subst e;exact ac
  have E:=Z8 (w:=w4) (g:=gd) (x:=x5) (A:=A5) (n:=k5) (c:=c5) (ng:=s5);have aX:=aP.o;have ag:=aJ.o;have aG:Zs d l (k+1)=Zs d l k*(Rat.divInt ((qOf l[k].coef).den:Int) (Zs d l k)).num:=by rw [<- aM.o];rfl
  have aL:Hid (ZD (World.num w4 gd x5 A5 k5 c5 s5) gd (Zs d l (k+1))):=by rw [aG];exact zan C hv
  have aO:=ze (r.o.chg E aw.o hS);have al:=ze (m.o.chg E (by omega) hS);have aK:=ze (zi.chg B.o E (fun z hz e=>by omega));have ai:Hid (Chg (· =b) w (World.num w4 gd x5 A5 k5 c5 s5)):=u.o.trans E (fun z hz e=>by omega);clear y r m B u C hdn hv ac hS E aX ag aG;go_wp2;go_roundw
  case rel=>first | exact ⟨k+1,by omega,by go_num,aL,aO,al,aK,ai⟩ | ((repeat apply Exists.intro);exact ⟨⟨k+1,by omega,by go_num,aL,aO,al,aK,ai⟩,rfl⟩)
  case measure=>simp [intOf];omega
theorem ze7 {l:List UInt8} {q:Rat} (h:zj l=some q):xS 67108864 q:=by
 have b:xS 50000 q:=(yR.1 h).2.len
 exact ⟨uC b.1 (by omega),uC b.2 (by omega)⟩
def X8 (b:Nat) (z:Int) (w:World) (e:Ending) (w' :World):Prop:=e= .returned (.int .i64 z)/\zr w' b/\Chg (· =b) w w'
theorem zkj (b:Nat) (l:List UInt8) (w:World) (hB:zr w b) (hs:zB l):Calls prog 79 #[.map (some b),str l] w (X8 b (xt l) w):=by
 have G:=xK b ⟨l.toArray⟩ w hB (by rw [<- zq,xf];exact hs)
 rw [xf] at G
 have J:=ze G
 clear hB hs G
 go_in
 go_wp2_with fail
 refine J.o.mono ?_
 rintro e w1 ⟨v,ok,rfl,⟨S,M,k1,c1,s1,L,R,N,O,Q,rfl⟩,E,C,I,K⟩
 clear J
 have D:=zf w1 (.cells #[.int .i64 S,.slice M k1 c1,.bool s1,.int .i64 L,.slice R N O,.bool Q] 62)
 have j:=ze (I.below D)
 have m:=ze (zC K D)
 have F:=ze D
 clear I K D
 cases hr:zj l with
 | none=>
   rw [hr] at E;subst E;have B:=ze (show xt l=4 by unfold xt;rw [hr]);clear C hr;go_wp2;go_ret;exact ⟨by rw [B.o];rfl,j.o,m.o⟩
 | some q=>
   rw [hr] at E;subst E;have u:=fun w' (h:Below w1.heap.size w1 w')=>XR _ q 12 w' ((C q hr).below h) (ze7 hr) (by omega) (by omega)
   by_cases y:yC 12 q
   . have B:=ze (show xt l=0 by unfold xt;rw [hr];exact if_pos y)
     rw [uE y] at u;have z:=ze u;clear C hr y u;go_wp2_with fail;refine (z.o _ F.o).mono ?_;rintro e T ⟨rfl,r⟩;replace j:=ze (j.o.below r);replace m:=ze (zC m.o r);clear r z F;go_wp2;go_ret;exact ⟨by rw [B.o];rfl,j.o,m.o⟩
   have B:=ze (show xt l=3 by unfold xt;rw [hr];exact if_neg y)
   rw [uF y] at u;have z:=ze u;clear C hr y u;go_wp2_with fail;refine (z.o _ F.o).mono ?_;rintro e T ⟨rfl,r⟩;replace j:=ze (j.o.below r);replace m:=ze (zC m.o r);clear r z F;go_wp2;go_ret;exact ⟨by rw [B.o];rfl,j.o,m.o⟩
theorem vj {S:Nat->Prop} (W:World):Hid (Chg S W W.drew):=Chg.of_below (zw W).out
theorem xM {S:Nat->Prop} {W w w' :World} (hb:Below w.heap.size w w') (h:Hid (Chg S W w)):Hid (Chg S W w'):=zC h.out hb
theorem Zh {S:Nat->Prop} {W w w' :World} (hb:Chg S w w') (h:Hid (Chg S W w)):Hid (Chg S W w'):=yg h.out hb
theorem xu {S:Nat->Prop} {W w:World} {p:Addr} {v:Value} (h:Hid (Chg S W w)) (hc:W.cell? p=some v) (hp:¬ S p.block):w.cell? p=some v:=h.out.cell hc hp
structure zgn (names:List (List UInt8)) (s:List UInt8):Prop where
 lt:names.idxOf s<names.length
 lo:∀ i (h:i<names.length),i<names.idxOf s->names[i]<s
 hi:∀ i (h:i<names.length),names.idxOf s<=i->¬ names[i]<s
theorem zgn.at_ {names:List (List UInt8)} {s:List UInt8} (h:zgn names s):names[names.idxOf s]'h.lt=s:=List.getElem_idxOf h.lt
def YT (sc:Int) (l:List zm) (t:Nat):Int:=vQ (qOf (l.getD t default).coef) sc
def VJ (names:List (List UInt8)) (l:List zm) (t:Nat):Nat:=names.idxOf (l.getD t default).name
def ztl (names:List (List UInt8)) (b sc:Int) (l:List zm):Nat->Nat->Int
 | 0=>fun k=>if k=0 then b else 0
 | t+1=>fun k=>if k=1+2*VJ names l t then -(YT sc l t) else if k=2+2*VJ names l t then YT sc l t else ztl names b sc l t k
def xz (r:zF):Int:=Zs ((qOf r.bound).den:Int) r.terms r.terms.length
def zph (names:List (List UInt8)) (r:zF):Nat->Int:=fun k=>
 if k=2*names.length+1 then 1 else ztl names (vQ (qOf r.bound) (xz r)) (xz r) r.terms r.terms.length k
def zsw (rows:List zF) (names:List (List UInt8)) (i:Nat):Nat->Int:=if i<rows.length then zph names (rows.getD i default) else fun _=>0
def zu9 (nn:Nat) (i:Nat):Nat:=2*nn+i
def zs0 (nn m:Nat) (k:Nat):Nat:=if k<2*nn then k else 2*nn+m
def zlf (rows:List zF) (i:Nat):Int:=xz (rows.getD i default)
def zon (rows:List zF) (names:List (List UInt8)):y8:=⟨1,zsw rows names,zu9 names.length,zs0 names.length rows.length⟩
structure ztv (names:List (List UInt8)) (r:zF):Prop where
 ok:zdv r.bound r.terms
 nm:∀ t∈r.terms,zgn names t.name
theorem YM (m:Nat) (f:Nat->Nat):yP m f ++ [.int .i64 (f m:Nat)]=yP (m+1) f:=by
 unfold yP
 rw [List.range_succ,List.map_append]
 rfl
theorem vZ.lt {w:World} {base n:Nat} {v:Value} {f:Nat->Int} (h:vZ w base v n f):∀ c,v.ownBlock=some c->base<=c/\c<w.heap.size:=by
 obtain ⟨e,b,_⟩:=h
 exact b.1.lt
theorem vZ.heap {w:World} {base n:Nat} {v:Value} {f:Nat->Int} (h:vZ w base v n f) {c:Nat} (hc:v.ownBlock=some c):∃ cs,w.heap[c]?=some (.cells cs 60 (0,0)):=by
 obtain ⟨e,b,_⟩:=h
 exact b.heap hc
theorem vZ.noDig {w:World} {base n:Nat} {v:Value} {f:Nat->Int} (h:vZ w base v n f) {c:Nat} (hc:v.ownBlock=some c):zK w c:=by
 obtain ⟨e,b,_⟩:=h
 exact b.2 c hc
def xp (b:Nat) (rv nv mv bv ov:Value):Array Value:=#[.map (some b),rv,nv,mv,.int .i64 1,.slice none 0 0,.bool false,bv,ov]
structure Vr (w0:World) (b m gt N:Nat) (rv nv:Value) (rows:List zF) (names:List (List UInt8)) (g:Nat->Nat) (i1 i2 i3 k:Nat) (mv bv ov sv:Value) (cs:Array Value) (w:World):Prop where
 blk:Blk w gt 136 cs
 cnd:vC cs
 mat:vM w0.heap.size w mv (2*names.length+2) i1 g (zsw rows names)
 bas:vJ w w0.heap.size 3 1 bv i2 (yP i2 (zu9 names.length))
 oth:vJ w w0.heap.size 3 1 ov k (yP k (zs0 names.length m))
 scl:vZ w w0.heap.size sv i3 (zlf rows)
 book:zr w b
 rws:zW w w0.heap.size rv rows
 nms:zT w w0.heap.size nv names
 chg:Chg (· =b) w0 w
 sne:∀ j,j<i1->sv.ownBlock≠some (g j)
 one:∀ c,bv.ownBlock=some c->ov.ownBlock≠some c
 lo:w0.heap.size<=gt
 top:N<=w.heap.size
 hb:b<w0.heap.size
 gtN:gt<N
 gN:∀ j,j<i1->g j<N
 oN:∀ c,mv.ownBlock=some c\/bv.ownBlock=some c\/ov.ownBlock=some c\/sv.ownBlock=some c->c<N
section
variable {w0 w w' :World} {b m gt N:Nat} {rv nv:Value} {rows:List zF} {names:List (List UInt8)} {g:Nat->Nat} {i1 i2 i3 k:Nat} {mv bv ov sv:Value} {cs:Array Value}
theorem Vr.far {S:Nat->Prop} (h:Vr w0 b m gt N rv nv rows names g i1 i2 i3 k mv bv ov sv cs w) (hc:Chg S w w') (hS:∀ x,S x->N<=x/\zK w x):Vr w0 b m gt N rv nv rows names g i1 i2 i3 k mv bv ov sv cs w' :=by
 have u:=h.lo
 have r:=h.gtN
 have y:=h.chg.size
 have l:∀ x,S x->zK w x:=fun x hx=>(hS x hx).2
 have j:∀ x,S x->N<=x:=fun x hx=>(hS x hx).1
 exact ⟨hc.blk h.blk (fun e=>by have:=j _ e;omega),h.cnd,h.mat.chg hc (fun i hi e=>by have:=j _ e;have:=h.gN i hi;omega) (fun c hc2 e=>by have:=j _ e;have:=h.oN c (.inl hc2);omega) l,
  h.bas.chg hc (fun c hc2 e=>by have:=j _ e;have:=h.oN c (.inr (.inl hc2));omega),h.oth.chg hc (fun c hc2 e=>by have:=j _ e;have:=h.oN c (.inr (.inr (.inl hc2)));omega),
  h.scl.chg hc (fun c hc2 e=>by have:=j _ e;have:=h.oN c (.inr (.inr (.inr hc2)));omega) l,h.book.chg hc (fun e=>by have:=j _ e;have:=h.hb;omega) l,
  h.rws.chg hc (fun x hx e=>by have:=j _ e;omega),h.nms.chg hc (fun x hx e=>by have:=j _ e;omega),h.chg.trans hc (fun x hx e=>by have:=j _ e;omega),
  h.sne,h.one,h.lo,uC h.top hc.size,h.hb,h.gtN,h.gN,h.oN⟩
theorem Vr.below (h:Vr w0 b m gt N rv nv rows names g i1 i2 i3 k mv bv ov sv cs w) (hb:Below w.heap.size w w'):Vr w0 b m gt N rv nv rows names g i1 i2 i3 k mv bv ov sv cs w' :=
 h.far (S:=fun _=>False) (Chg.of_below hb) (fun _ h=>h.elim)
theorem Vr.read (h:Vr w0 b m gt N rv nv rows names g i1 i2 i3 k mv bv ov sv cs w) (hc:Chg (· =b) w w') (hb:zr w' b):Vr w0 b m gt N rv nv rows names g i1 i2 i3 k mv bv ov sv cs w' :=by
 have j:∀ x,x=b->zK w x:=fun x e=>by subst e;exact h.book.noDig
 have r:=h.hb
 have l:=h.lo
 exact ⟨hc.blk h.blk (fun e=>by omega),h.cnd,h.mat.chg hc (fun i hi e=>by have:=(h.mat.rows i hi).1;omega) (fun c hc2 e=>by have:=(h.mat.own.1.lt c hc2).1;omega) j,
  h.bas.chg hc (fun c hc2 e=>by have:=(h.bas.1.lt c hc2).1;omega),h.oth.chg hc (fun c hc2 e=>by have:=(h.oth.1.lt c hc2).1;omega),
  h.scl.chg hc (fun c hc2 e=>by have:=(h.scl.lt c hc2).1;omega) j,hb,h.book.keepRows hc h.rws,h.nms.chg hc (fun _ _ e=>by subst e;exact h.book.noCells),yg h.chg hc,
  h.sne,h.one,h.lo,uC h.top hc.size,h.hb,h.gtN,h.gN,h.oN⟩
theorem xN {v:Value} (hg:w.grownBy w' v.ownBlock):Chg (fun b=>v.ownBlock=some b) w w' :=⟨hg.os,hg.tape,hg.output,hg.size,fun k hk hS=>hg.block k hk (fun e=>hS e.symm)⟩
theorem ZI {x:Nat} {cs1 cs2:Array Value} {t1 t2:TypeId} {f1 f2:Nat×Nat} (h1:w.heap[x]?=some (.cells cs1 t1 f1)) (h2:w.heap[x]?=some (.cells cs2 t2 f2)):t1=t2:=by
 rw [h1] at h2
 injection h2 with h2
 injection h2
theorem Vr.scales {sv' :Value} (h:Vr w0 b m gt N rv nv rows names g i1 i2 i3 k mv bv ov sv cs w) (hP:vZ w' w0.heap.size sv' (i3+1) (zlf rows)) (hg:w.grownBy w' sv.ownBlock) (hat:sv'.ownBlock=sv.ownBlock\/sv'.ownBlock=some w.heap.size):
 Vr w0 b m gt w'.heap.size rv nv rows names g i1 i2 (i3+1) k mv bv ov sv' cs w' :=by
 have l:=xN hg
 have B:∀ x,sv.ownBlock=some x->zK w x:=fun x e=>h.scl.noDig e
 have y:∀ x e' v size n xs,e' ≠60->vJ w w0.heap.size e' size v n xs->v.ownBlock=some x->¬ sv.ownBlock=some x:=fun x e' v size n xs hne ho hx hs=>by
  obtain ⟨cs,k1⟩:=h.scl.heap hs
  obtain ⟨E,k2⟩:=ho.heap hx
  exact hne (ZI k2 k1)
 have C:=h.hb
 have D:=h.lo
 have F:=h.top
 have G:=l.size
 have u:∀ x,sv.ownBlock=some x->w0.heap.size<=x:=fun x e=>(h.scl.lt x e).1
 refine ⟨l.blk h.blk (fun e=>?_),h.cnd,h.mat.chg l (fun i hi e=>h.sne i hi e) (fun c hc2 e=>y _ _ _ _ _ _ (by decide) h.mat.own hc2 e) B,
  h.bas.chg l (fun c hc2 e=>y _ _ _ _ _ _ (by decide) h.bas hc2 e),h.oth.chg l (fun c hc2 e=>y _ _ _ _ _ _ (by decide) h.oth hc2 e),hP,
  h.book.chg l (fun e=>by have:=u _ e;omega) B,h.rws.chg l (fun x hx e=>by have:=u _ e;omega),h.nms.chg l (fun x hx e=>by have:=u _ e;omega),
  h.chg.trans l (fun x hx e=>by have:=u _ e;omega),fun j hj e=>?_,h.one,h.lo,uA,h.hb,by have:=h.gtN;omega,fun j hj=>by have:=h.gN j hj;omega,fun c hc2=>?_⟩
 . obtain ⟨cs,k1⟩:=h.scl.heap e
   exact yZ h.blk k1 (by decide) rfl
 . rcases hat with z | z
   . exact h.sne j hj (by rw [<- z];exact e)
   . rw [z] at e;injection e with e;have:=h.gN j hj;omega
 . rcases hc2 with r | r | r | r
   . have:=h.oN c (.inl r);omega
   . have:=h.oN c (.inr (.inl r));omega
   . have:=h.oN c (.inr (.inr (.inl r)));omega
   . exact (hP.lt c r).2
theorem Vr.row {mv' :Value} {gl:Nat} {f:Nat->Int} (h:Vr w0 b m gt N rv nv rows names g i1 i2 i3 k mv bv ov sv cs w) (hr:xD w gl (2*names.length+2) (2*names.length+2) f) (hgl:N<=gl) (hf:∀ j,j<2*names.length+2->zsw rows names i1 j=f j)
 (hown:vJ w' w0.heap.size 126 1 mv' (i1+1) (((List.range i1).map fun i=>zjq (2*names.length+2) (g i)) ++ [zjq (2*names.length+2) gl])) (hg:w.grownBy w' mv.ownBlock):
 Vr w0 b m gt w'.heap.size rv nv rows names (fun i=>if i=i1 then gl else g i) (i1+1) i2 i3 k mv' bv ov sv cs w' :=by
 have l:=xN hg
 have G:=h.lo
 have E:=h.gtN
 have F:=h.hb
 have J:=h.top
 have K:=l.size
 have I:=hr.lt
 have B:∀ x,mv.ownBlock=some x->zK w x:=fun x e=>h.mat.own.2 x e
 have y:∀ x,mv.ownBlock=some x->w0.heap.size<=x:=fun x e=>(h.mat.own.1.lt x e).1
 have z:∀ x e' v size n xs,e' ≠126->vJ w w0.heap.size e' size v n xs->v.ownBlock=some x->¬ mv.ownBlock=some x:=fun x e' v size n xs hne ho hx hs=>by
  obtain ⟨cs,k1⟩:=h.mat.own.heap hs
  obtain ⟨C,k2⟩:=ho.heap hx
  exact hne (ZI k2 k1)
 have D:=h.mat.push hr (by omega) (fun j hj=>by have:=h.gN j hj;omega) hown hg (fun j hj=>hf j hj)
 refine ⟨l.blk h.blk (fun e=>?_),h.cnd,D,h.bas.chg l (fun c hc2 e=>z _ _ _ _ _ _ (by decide) h.bas hc2 e),h.oth.chg l (fun c hc2 e=>z _ _ _ _ _ _ (by decide) h.oth hc2 e),
  h.scl.chg l (fun c hc2 e=>?_) B,h.book.chg l (fun e=>by have:=y _ e;omega) B,
  h.rws.chg l (fun x hx e=>by have:=y _ e;omega),h.nms.chg l (fun x hx e=>by have:=y _ e;omega),
  h.chg.trans l (fun x hx e=>by have:=y _ e;omega),fun j hj e=>?_,h.one,h.lo,uA,h.hb,by omega,fun j hj=>?_,fun c hc2=>?_⟩
 . obtain ⟨cs,k1⟩:=h.mat.own.heap e
   exact yZ h.blk k1 (by decide) rfl
 . obtain ⟨cs,k1⟩:=h.mat.own.heap e
   obtain ⟨C,k2⟩:=h.scl.heap hc2;exact absurd (ZI k1 k2) (by decide)
 . by_cases u:j=i1
   rotate_left
   . simp only [if_neg u] at e
     exact h.sne j (by omega) e
   simp only [if_pos u] at e
   have:=h.oN _ (.inr (.inr (.inr e)))
   omega
 . by_cases u:j=i1
   . simp only [if_pos u];omega
   simp only [if_neg u];have:=h.gN j (by omega);omega
 . rcases hc2 with r | r | r | r
   . exact (hown.1.lt c r).2
   . have:=h.oN c (.inr (.inl r));omega
   . have:=h.oN c (.inr (.inr (.inl r)));omega
   . have:=h.oN c (.inr (.inr (.inr r)));omega
theorem Vr.basic {bv' :Value} (h:Vr w0 b m gt N rv nv rows names g i1 i2 i3 k mv bv ov sv cs w) (hown:vJ w' w0.heap.size 3 1 bv' (i2+1) (yP (i2+1) (zu9 names.length))) (hg:w.grownBy w' bv.ownBlock) (hat:bv'.ownBlock=bv.ownBlock\/bv'.ownBlock=some w.heap.size):
 Vr w0 b m gt w'.heap.size rv nv rows names g i1 (i2+1) i3 k mv bv' ov sv cs w' :=by
 have l:=xN hg
 have E:=h.lo
 have C:=h.gtN
 have D:=h.hb
 have F:=h.top
 have G:=l.size
 have z:∀ x,bv.ownBlock=some x->zK w x:=fun x e=>h.bas.2 x e
 have u:∀ x,bv.ownBlock=some x->w0.heap.size<=x:=fun x e=>(h.bas.1.lt x e).1
 refine ⟨l.blk h.blk (fun e=>?_),h.cnd,h.mat.chg l (fun i hi e=>?_) (fun c hc2 e=>?_) z,hown,h.oth.chg l (fun c hc2 e=>h.one c e hc2),
  h.scl.chg l (fun c hc2 e=>?_) z,h.book.chg l (fun e=>by have:=u _ e;omega) z,
  h.rws.chg l (fun x hx e=>by have:=u _ e;omega),h.nms.chg l (fun x hx e=>by have:=u _ e;omega),
  h.chg.trans l (fun x hx e=>by have:=u _ e;omega),h.sne,fun c hc2 e=>?_,h.lo,uA,h.hb,by omega,fun j hj=>by have:=h.gN j hj;omega,fun c hc2=>?_⟩
 . obtain ⟨cs,k1⟩:=h.bas.heap e
   exact yZ h.blk k1 (by decide) rfl
 . obtain ⟨cs,k1⟩:=h.bas.heap e
   obtain ⟨B,k2⟩:=(h.mat.rows i hi).2.heap;exact absurd (ZI k1 k2) (by decide)
 . obtain ⟨cs,k1⟩:=h.bas.heap e
   obtain ⟨B,k2⟩:=h.mat.own.heap hc2;exact absurd (ZI k1 k2) (by decide)
 . obtain ⟨cs,k1⟩:=h.bas.heap e
   obtain ⟨B,k2⟩:=h.scl.heap hc2;exact absurd (ZI k1 k2) (by decide)
 . rcases hat with y | y
   . exact h.one c (by rw [<- y];exact hc2) e
   . rw [y] at hc2;injection hc2 with hc2;have:=h.oN c (.inr (.inr (.inl e)));omega
 . rcases hc2 with r | r | r | r
   . have:=h.oN c (.inl r);omega
   . exact (hown.1.lt c r).2
   . have:=h.oN c (.inr (.inr (.inl r)));omega
   . have:=h.oN c (.inr (.inr (.inr r)));omega
theorem Vr.other {ov' :Value} (h:Vr w0 b m gt N rv nv rows names g i1 i2 i3 k mv bv ov sv cs w) (hown:vJ w' w0.heap.size 3 1 ov' (k+1) (yP (k+1) (zs0 names.length m))) (hg:w.grownBy w' ov.ownBlock) (hat:ov'.ownBlock=ov.ownBlock\/ov'.ownBlock=some w.heap.size):
 Vr w0 b m gt w'.heap.size rv nv rows names g i1 i2 i3 (k+1) mv bv ov' sv cs w' :=by
 have l:=xN hg
 have E:=h.lo
 have C:=h.gtN
 have D:=h.hb
 have F:=h.top
 have G:=l.size
 have z:∀ x,ov.ownBlock=some x->zK w x:=fun x e=>h.oth.2 x e
 have u:∀ x,ov.ownBlock=some x->w0.heap.size<=x:=fun x e=>(h.oth.1.lt x e).1
 refine ⟨l.blk h.blk (fun e=>?_),h.cnd,h.mat.chg l (fun i hi e=>?_) (fun c hc2 e=>?_) z,h.bas.chg l (fun c hc2 e=>h.one c hc2 e),hown,
  h.scl.chg l (fun c hc2 e=>?_) z,h.book.chg l (fun e=>by have:=u _ e;omega) z,
  h.rws.chg l (fun x hx e=>by have:=u _ e;omega),h.nms.chg l (fun x hx e=>by have:=u _ e;omega),
  h.chg.trans l (fun x hx e=>by have:=u _ e;omega),h.sne,fun c hc2 e=>?_,h.lo,uA,h.hb,by omega,fun j hj=>by have:=h.gN j hj;omega,fun c hc2=>?_⟩
 . obtain ⟨cs,k1⟩:=h.oth.heap e
   exact yZ h.blk k1 (by decide) rfl
 . obtain ⟨cs,k1⟩:=h.oth.heap e
   obtain ⟨B,k2⟩:=(h.mat.rows i hi).2.heap;exact absurd (ZI k1 k2) (by decide)
 . obtain ⟨cs,k1⟩:=h.oth.heap e
   obtain ⟨B,k2⟩:=h.mat.own.heap hc2;exact absurd (ZI k1 k2) (by decide)
 . obtain ⟨cs,k1⟩:=h.oth.heap e
   obtain ⟨B,k2⟩:=h.scl.heap hc2;exact absurd (ZI k1 k2) (by decide)
 . rcases hat with y | y
   . exact h.one c hc2 (by rw [<- y];exact e)
   . rw [y] at e;injection e with e;have:=h.oN c (.inr (.inl hc2));omega
 . rcases hc2 with r | r | r | r
   . have:=h.oN c (.inl r);omega
   . have:=h.oN c (.inr (.inl r));omega
   . exact (hown.1.lt c r).2
   . have:=h.oN c (.inr (.inr (.inr r)));omega
theorem Vr.store (h:Vr w0 b m gt N rv nv rows names g i1 i2 i3 k mv bv ov sv cs w) (j:Nat) {u:Value} (hu:Zp u):Vr w0 b m gt N rv nv rows names g i1 i2 i3 k mv bv ov sv (cs.setIfInBounds j u) (w.setCell ⟨gt,j,none⟩ u):=by
 have E:=h.lo
 have C:=h.gtN
 have D:=h.hb
 have B:=h.top
 have l:Chg (· =gt) w (w.setCell ⟨gt,j,none⟩ u):=Chg.setCell (S:=(· =gt)) (Chg.refl w) (p:=⟨gt,j,none⟩) rfl _
 have r:∀ x,x=gt->zK w x:=fun x e=>by subst e;exact h.blk.noDig h.cnd
 have z:(w.setCell ⟨gt,j,none⟩ u).heap.size=w.heap.size:=by simp [World.setCell]
 have y:∀ x e' v size n xs,e' ≠136->vJ w w0.heap.size e' size v n xs->v.ownBlock=some x->¬ x=gt:=fun x e' v size n xs hne ho hx e=>by
  subst e
  obtain ⟨F,k2⟩:=ho.heap hx
  exact yZ h.blk k2 (fun e=>hne e.symm) rfl
 refine ⟨h.blk.set_ j u,xm h.cnd hu j,h.mat.chg l (fun i hi e=>?_) (fun c hc2 e=>y _ _ _ _ _ _ (by decide) h.mat.own hc2 e) r,h.bas.chg l (fun c hc2 e=>y _ _ _ _ _ _ (by decide) h.bas hc2 e),
  h.oth.chg l (fun c hc2 e=>y _ _ _ _ _ _ (by decide) h.oth hc2 e),h.scl.chg l (fun c hc2 e=>?_) r,h.book.chg l (fun e=>by omega) r,
  h.rws.chg l (fun x hx e=>by omega),h.nms.chg l (fun x hx e=>by omega),h.chg.trans l (fun x hx e=>by omega),h.sne,h.one,h.lo,by rw [z];exact B,h.hb,h.gtN,h.gN,h.oN⟩
 . obtain ⟨cs,k1⟩:=(h.mat.rows i hi).2.heap
   rw [e] at k1;exact yZ h.blk k1 (by decide) rfl
 . subst e
   obtain ⟨cs,k1⟩:=h.scl.heap hc2;exact yZ h.blk k1 (by decide) rfl
end
theorem xB {P:Program} {w:World} {o:Oper} {a:Act} {K:Act->World->Prop} {Q:Exit->Act->World->Prop} (s x:Operand) (t:TypeId)
 (ho:o.op= .call { callee:=.builtin .append,args:=#[s,x],argTypes:=#[t,t] })
 (base:Nat) (e:TypeId) (i:TypeInfo) (z:Value) (size bytes:Nat) (ht:P.underlying t=some (.slice e)) (hi:P.info? e=some i) (hz:i.zero=some z)
 (hsize:i.size=size) (hby:i.bytes=bytes) (hzs:z.cells.size=size) (hsz:0<size)
 (v:Value) (n:Nat) (xs:List Value) (hs:a.eval s=v) (hown:vJ w base e size v n xs)
 (ad:Addr) (m c:Nat) (news:List Value) (hx:a.eval x= .slice (some ad) m c) (hl:news.length=m*size) (hm:0<m) (hnews:∀ j u,news[j]?=some u->w.cell? (ad.add j)=some u) (h1:∀ u∈news,u.oneCell' =true)
 (hno:∀ u∈news,Zp u) (hzn:∀ u∈z.cells,Zp u) (h63:n+m<=maxLen) (hbytes:(n+m)*bytes<=140737488355328) (hbase:base<=w.heap.size)
 (h:∀ b w',vJ w' base e size b (n+m) (xs ++ news)->w.grownBy w' v.ownBlock->(b.ownBlock=v.ownBlock\/b.ownBlock=some w.heap.size)->K (a.put o.dst b) w'):Oper.wp P o a w K Q:=by
 obtain ⟨b,w',l,r,B,y⟩:=Y0 (P:=P) w base t o.type e i z size bytes ht hi hz hsize hby hzs hsz v n xs hown ad m c news hl hm hnews h1 hno hzn h63 hbytes hbase
 unfold Oper.wp execOp
 simp only [ho,resolve,invoke,builtin,Sem.run_bind,Sem.run_pure,Result.andThen_ok,List.map_toArray,List.map_cons,List.map_nil,hs,hx,l]
 exact h b w' r B y
theorem zlj {z:Int}:(yj z 0>0)↔0<z:=by
 unfold yj
 split
 . omega
 split<;>omega
theorem y8.enter_yes {T:y8} {m n:Nat} {but:Int} (h1:(T.other n:Int)≠but) (h2:0<T.cell m (n+1)) (h3:T.enter m but n=0\/T.other n<T.other (T.enter m but n - 1)):T.enter m but (n+1)=n+1:=by
 show (if _ then _ else _)=_
 rw [if_pos ⟨h1,h2,h3⟩]
theorem y8.enter_no {T:y8} {m n:Nat} {but:Int} (h:¬ ((T.other n:Int)≠but/\0<T.cell m (n+1)/\(T.enter m but n=0\/T.other n<T.other (T.enter m but n - 1)))):T.enter m but (n+1)=T.enter m but n:=by
 show (if _ then _ else _)=_
 rw [if_neg h]
def EntR (w0:World) (base m L:Nat) (F:zN) (T:y8) (but:Int) (bv kv:Value) (wr:World):Prop:=
 ∃ k n:Nat,k<=L/\Hid (k=n+1)/\kv= .int .i64 (k:Nat)/\bv= .int .i64 (T.enter m but n:Nat)/\Hid (zX base m L F wr T)/\Hid (Below w0.heap.size w0 wr)
theorem zcy (base m L:Nat) (F:zN) (T:y8) (C:Int) (w:World) (hT:zX base m L F w T) (hm:m<=100000) (hL:L<=100000):
 Calls prog 115 #[.pointer (some ⟨F.gt,0,none⟩),.int .i64 C] w (zij w (.int .i64 (T.enter m C (L - 1):Nat))):=by
 have t3:=hT.cell3
 have t1:=hT.cell1
 have t4:=hT.mat.cell (i:=m) (by omega)
 have ar:(m:Int)<(m:Int)+1:=by omega
 have l:=ze hT
 have aj:=ze hT.lt2
 clear hT
 go_in
 go_upto_region 2 with fail
 skip
 go_region
 skip
 have ae:=ze (l.o.below (zw w).out)
 have u:=zw w
 clear l t3 t1 t4
 generalize w.drew=W1 at ae u |-
 go_wp2_with fail
 skip
 go_loopw [5,7] (EntR w base m L F T C) (fun _ kv _=>L - (intOf kv).toNat)
 case atStart=>exact ⟨1,0,by have:=aj.o;omega,rfl,rfl,rfl,ae,u⟩
 case round=>
  clear ae u
  obtain ⟨k,n,hn,J,rfl,rfl,l,u⟩:=hrel
  have ap:0<k:=by have:=J.o;omega
  by_cases ah:k<L
  rotate_left
  . have ab:=J.o
    have ai:¬ (k:Int)<(L:Int):=by omega
    obtain rfl:n=L - 1:=by omega
    clear ab;go_wp2;go_ret;exact ⟨by go_num,u.o⟩
  have ai:(k:Int)<(L:Int):=by omega
  obtain ⟨D,co,eo,E,Y⟩:=l.o.others;have I:=l.o.cell8;rw [eo] at I;have ab:=J.o;have o1:=Y n (by omega);have ek:n=k - 1:=by omega
  have o1:wr.cell? ⟨D,k - 1,none⟩=some (.int .i64 (T.other n:Nat)):=by rw [<- ek];exact o1
  have au:(k:Int) - 1<((L - 1:Nat):Int):=by omega
  have am:(1:Int)<=(k:Int):=by omega
  have az:IntKind.i64.wrap ((k:Int) - 1)=(k:Int) - 1:=by rw [IntKind.wrap_i64];omega
  have ak:(0:Int)<=(k:Int) - 1:=by omega
  have ay:((k:Int) - 1).toNat=k - 1:=by omega
  have N:=l.o.lt;obtain ⟨ax,aA,an,Z,ag,a0,O,Q,ha⟩:=l.o.mat.at_ (i:=m) (k:=k) (by omega) ah;have r:=(l.o.mat.rows m (by omega)).2.lt;have af:=T.enter_le m C n;obtain ⟨b,V⟩:∃ b,Hid (T.enter m C n=b):=⟨_,rfl⟩;rw [V.o] at af |-;have av:b<k:=by omega
  rw [ab] at ha;have S:=ze ha;clear ha ab ek af
  skip
  by_cases M:(T.other n:Int)=C
  . have d1:((T.other n:Int) != C)=false:=by rw [bne_eq_false_iff_eq];exact M
    have U:Hid (T.enter m C (n+1)=b):=(T.enter_no fun h=>h.1 M).trans V.o;clear M
    go_upto_region 6 with fail
    skip
    have B:∀ w',Hid (Below wr.heap.size wr w')->w'.cell? ⟨F.gt,8,none⟩=some (.slice (some ⟨D,0,none⟩) (L - 1) co)/\w'.cell? ⟨D,k - 1,none⟩=some (.int .i64 (T.other n:Nat))/\w'.cell? ⟨F.g m,k*3,none⟩=some (.int .i64 ax)/\w'.cell? ⟨F.g m,k*3+1,none⟩=some (.slice aA an Z)/\w'.cell? ⟨F.g m,k*3+2,none⟩=some (.bool ag):=fun w' hB=>⟨zk hB N I,zk hB E o1,zk hB r a0,zk hB r O,zk hB r Q⟩
    refine xb B 11 29 40 (zw wr) fun j=>?_;simp only [xDR]
    iterate 11 refine zP ?_
    refine zD ?_;refine sK 11 ?_;refine sK 12 ?_;refine sK 13 ?_;refine sK 14 ?_;refine sK 15 ?_;refine sK 16 ?_;refine tK 17 ?_;refine tK 18 ?_;refine sK 19 ?_;refine sK 20 ?_;refine sK 21 ?_;refine sK 22 ?_;refine sK 23 ?_;refine sK 24 ?_;refine sK 25 ?_;refine sK 26 ?_;refine sK 27 ?_;refine sK 28 ?_;refine sK 29 ?_;refine sK 30 ?_;refine sK 31 ?_;refine sK 32 ?_;refine sK 33 ?_;refine sK 34 ?_;refine sK 35 ?_;refine sK 36 ?_;refine sK 37 ?_;refine sK 38 ?_;refine sK 39 ?_;have y:=(j.1).out;replace l:=ze (zX.below l.o y);replace u:=eb_ u y;clear y j B;refine hdn ?_;simp only [xDR];clear I o1 a0 O Q S r N E Y;go_wp2;go_roundw
    case rel=>exact ⟨k+1,n+1,by omega,(ze (by have:=J.o;omega)),by go_num,(by rw [U.o]),l,u⟩
    case measure=>simp [intOf];omega
  have d1:((T.other n:Int) != C)=true:=by rw [bne_iff_ne];exact M
  obtain ⟨sg,ad⟩:∃ sg:Int,yj (T.cell m (n+1)) 0=sg:=⟨_,rfl⟩;have X:=zlj (z:=T.cell m (n+1));rw [ad] at X;have al:=ze ad;have aa:=fun w' (h:zM w' (.agg #[.int .i64 ax,.slice aA an Z,.bool ag]) (T.cell m (n+1)))=>YH _ _ w' h
  rw [ad] at aa;clear ad
  by_cases R:0<T.cell m (n+1)
  rotate_left
  . have d2:decide (sg>0)=false:=by rw [decide_eq_false_iff_not];exact fun h=>R (X.1 h)
    have U:Hid (T.enter m C (n+1)=b):=(T.enter_no fun h=>R h.2.1).trans V.o;clear M R X
    go_upto_region 6 with fail
    skip
    have B:∀ w',Hid (Below wr.heap.size wr w')->w'.cell? ⟨F.gt,8,none⟩=some (.slice (some ⟨D,0,none⟩) (L - 1) co)/\w'.cell? ⟨D,k - 1,none⟩=some (.int .i64 (T.other n:Nat))/\w'.cell? ⟨F.g m,k*3,none⟩=some (.int .i64 ax)/\w'.cell? ⟨F.g m,k*3+1,none⟩=some (.slice aA an Z)/\w'.cell? ⟨F.g m,k*3+2,none⟩=some (.bool ag):=fun w' hB=>⟨zk hB N I,zk hB E o1,zk hB r a0,zk hB r O,zk hB r Q⟩
    refine xb B 11 29 40 (zw wr) fun j=>?_;simp only [xDR]
    iterate 11 refine zP ?_
    refine zD ?_;refine tK 11 ?_;refine tK 12 ?_;refine tK 13 ?_;refine tK 14 ?_;refine rK 15 fun K hK=>?_;rw [if_pos (by rfl)]
    go_simp
    go_at_call 46;refine (aa _ (S.o.below j.1.out)).mono ?_;rintro e w1 ⟨rfl,G⟩;refine hK.out _ _ (zl (zo G j.1) (B _)) ?_;clear hK K j;intro j
    try simp only [Act.put,xST]
    clear G;refine tK 16 ?_;refine tK 17 ?_;refine tK 18 ?_;refine sK 19 ?_;refine sK 20 ?_;refine sK 21 ?_;refine sK 22 ?_;refine sK 23 ?_;refine sK 24 ?_;refine sK 25 ?_;refine sK 26 ?_;refine sK 27 ?_;refine sK 28 ?_;refine sK 29 ?_;refine sK 30 ?_;refine sK 31 ?_;refine sK 32 ?_;refine sK 33 ?_;refine sK 34 ?_;refine sK 35 ?_;refine sK 36 ?_;refine sK 37 ?_;refine sK 38 ?_;refine sK 39 ?_;have y:=(j.1).out;replace l:=ze (zX.below l.o y);replace u:=eb_ u y;clear y j B;refine hdn ?_;simp only [xDR];clear I o1 a0 O Q S r N E Y;go_wp2;go_roundw
    case rel=>exact ⟨k+1,n+1,by omega,(ze (by have:=J.o;omega)),by go_num,(by rw [U.o]),l,u⟩
    case measure=>simp [intOf];omega
  have d2:decide (sg>0)=true:=by rw [decide_eq_true_iff];exact X.2 R
  by_cases h3:b=0
  . have d3:((b:Int) == 0)=true:=by rw [beq_iff_eq];omega
    have U:Hid (T.enter m C (n+1)=n+1):=T.enter_yes M R (.inl (V.o.trans h3));clear M R h3 X
    go_upto_region 6 with fail
    skip
    have B:∀ w',Hid (Below wr.heap.size wr w')->w'.cell? ⟨F.gt,8,none⟩=some (.slice (some ⟨D,0,none⟩) (L - 1) co)/\w'.cell? ⟨D,k - 1,none⟩=some (.int .i64 (T.other n:Nat))/\w'.cell? ⟨F.g m,k*3,none⟩=some (.int .i64 ax)/\w'.cell? ⟨F.g m,k*3+1,none⟩=some (.slice aA an Z)/\w'.cell? ⟨F.g m,k*3+2,none⟩=some (.bool ag):=fun w' hB=>⟨zk hB N I,zk hB E o1,zk hB r a0,zk hB r O,zk hB r Q⟩
    refine xb B 11 29 40 (zw wr) fun j=>?_;simp only [xDR]
    iterate 11 refine zP ?_
    refine zD ?_;refine tK 11 ?_;refine tK 12 ?_;refine tK 13 ?_;refine tK 14 ?_;refine rK 15 fun K hK=>?_;rw [if_pos (by rfl)]
    go_simp
    go_at_call 46;refine (aa _ (S.o.below j.1.out)).mono ?_;rintro e w1 ⟨rfl,G⟩;refine hK.out _ _ (zl (zo G j.1) (B _)) ?_;clear hK K j;intro j
    try simp only [Act.put,xST]
    clear G;refine tK 16 ?_;refine tK 17 ?_;refine tK 18 ?_;refine tK 19 ?_;refine tK 20 ?_;refine tK 21 ?_;refine sK 22 ?_;refine sK 23 ?_;refine sK 24 ?_;refine sK 25 ?_;refine sK 26 ?_;refine sK 27 ?_;refine sK 28 ?_;refine sK 29 ?_;refine sK 30 ?_;refine sK 31 ?_;refine sK 32 ?_;refine sK 33 ?_;refine sK 34 ?_;refine sK 35 ?_;refine sK 36 ?_;refine sK 37 ?_;refine sK 38 ?_;refine tK 39 ?_;have y:=(j.1).out;replace l:=ze (zX.below l.o y);replace u:=eb_ u y;clear y j B;refine hdn ?_;simp only [xDR];clear I o1 a0 O Q S r N E Y;go_wp2;go_roundw
    case rel=>exact ⟨k+1,n+1,by omega,(ze (by have:=J.o;omega)),by go_num,(by rw [U.o,J.o]),l,u⟩
    case measure=>simp [intOf];omega
  have d3:((b:Int) == 0)=false:=by rw [beq_eq_false_iff_ne];omega
  have o2:=Y (b - 1) (by omega);have G:((b:Int) - 1).toNat=b - 1:=by omega
  have aw:(0:Int)<=(b:Int) - 1:=by omega
  have aq:(1:Int)<=(b:Int):=by omega
  have ao:IntKind.i64.wrap ((b:Int) - 1)=(b:Int) - 1:=by rw [IntKind.wrap_i64];omega
  have aB:(b:Int) - 1<((L - 1:Nat):Int):=by omega
  by_cases h4:T.other n<T.other (b - 1)
  . have d4:decide ((T.other n:Int)<(T.other (b - 1):Int))=true:=by rw [decide_eq_true_iff];omega
    have d5:decide (T.other n<T.other (b - 1))=true:=uE h4;have U:Hid (T.enter m C (n+1)=n+1):=T.enter_yes M R (.inr (by rw [V.o];exact h4));clear M R h3 X
    go_upto_region 6 with fail
    skip
    have B:∀ w',Hid (Below wr.heap.size wr w')->w'.cell? ⟨F.gt,8,none⟩=some (.slice (some ⟨D,0,none⟩) (L - 1) co)/\w'.cell? ⟨D,k - 1,none⟩=some (.int .i64 (T.other n:Nat))/\w'.cell? ⟨F.g m,k*3,none⟩=some (.int .i64 ax)/\w'.cell? ⟨F.g m,k*3+1,none⟩=some (.slice aA an Z)/\w'.cell? ⟨F.g m,k*3+2,none⟩=some (.bool ag)/\w'.cell? ⟨D,b - 1,none⟩=some (.int .i64 (T.other (b - 1):Nat)):=fun w' hB=>⟨zk hB N I,zk hB E o1,zk hB r a0,zk hB r O,zk hB r Q,zk hB E o2⟩
    refine xb B 11 29 40 (zw wr) fun j=>?_;simp only [xDR]
    iterate 11 refine zP ?_
    refine zD ?_;refine tK 11 ?_;refine tK 12 ?_;refine tK 13 ?_;refine tK 14 ?_;refine rK 15 fun K hK=>?_;rw [if_pos (by rfl)]
    go_simp
    go_at_call 46;refine (aa _ (S.o.below j.1.out)).mono ?_;rintro e w1 ⟨rfl,G⟩;refine hK.out _ _ (zl (zo G j.1) (B _)) ?_;clear hK K j;intro j
    try simp only [Act.put,xST]
    clear G;refine tK 16 ?_;refine tK 17 ?_;refine tK 18 ?_;refine tK 19 ?_;refine tK 20 ?_;refine tK 21 ?_;refine tK 22 ?_;refine tK 23 ?_;refine tK 24 ?_;refine tK 25 ?_;refine tK 26 ?_;refine tK 27 ?_;refine tK 28 ?_;refine tK 29 ?_;refine tK 30 ?_;refine tK 31 ?_;refine tK 32 ?_;refine tK 33 ?_;refine tK 34 ?_;refine tK 35 ?_;refine tK 36 ?_;refine tK 37 ?_;refine tK 38 ?_;refine tK 39 ?_;have y:=(j.1).out;replace l:=ze (zX.below l.o y);replace u:=eb_ u y;clear y j B;refine hdn ?_;simp only [xDR];clear I o1 a0 O Q S r N E Y;go_wp2;go_roundw
    case rel=>exact ⟨k+1,n+1,by omega,(ze (by have:=J.o;omega)),by go_num,(by rw [U.o,J.o]),l,u⟩
    case measure=>simp [intOf];omega
  have d4:decide ((T.other n:Int)<(T.other (b - 1):Int))=false:=by rw [decide_eq_false_iff_not];omega
  have d5:decide (T.other n<T.other (b - 1))=false:=uF h4
  have U:Hid (T.enter m C (n+1)=b):=(T.enter_no fun h=>by
   rcases h.2.2 with h5 | h5
   . exact h3 (V.o.symm.trans h5)
   . rw [V.o] at h5;exact h4 h5).trans V.o
  clear M R h3 X
  go_upto_region 6 with fail
  skip
  have B:∀ w',Hid (Below wr.heap.size wr w')->w'.cell? ⟨F.gt,8,none⟩=some (.slice (some ⟨D,0,none⟩) (L - 1) co)/\w'.cell? ⟨D,k - 1,none⟩=some (.int .i64 (T.other n:Nat))/\w'.cell? ⟨F.g m,k*3,none⟩=some (.int .i64 ax)/\w'.cell? ⟨F.g m,k*3+1,none⟩=some (.slice aA an Z)/\w'.cell? ⟨F.g m,k*3+2,none⟩=some (.bool ag)/\w'.cell? ⟨D,b - 1,none⟩=some (.int .i64 (T.other (b - 1):Nat)):=fun w' hB=>⟨zk hB N I,zk hB E o1,zk hB r a0,zk hB r O,zk hB r Q,zk hB E o2⟩
  refine xb B 11 29 40 (zw wr) fun j=>?_;simp only [xDR]
  iterate 11 refine zP ?_
  refine zD ?_;refine tK 11 ?_;refine tK 12 ?_;refine tK 13 ?_;refine tK 14 ?_;refine rK 15 fun K hK=>?_;rw [if_pos (by rfl)]
  go_simp
  go_at_call 46;refine (aa _ (S.o.below j.1.out)).mono ?_;rintro e w1 ⟨rfl,G⟩;refine hK.out _ _ (zl (zo G j.1) (B _)) ?_;clear hK K j;intro j
  try simp only [Act.put,xST]
  clear G;refine tK 16 ?_;refine tK 17 ?_;refine tK 18 ?_;refine tK 19 ?_;refine tK 20 ?_;refine tK 21 ?_;refine tK 22 ?_;refine tK 23 ?_;refine tK 24 ?_;refine tK 25 ?_;refine tK 26 ?_;refine tK 27 ?_;refine tK 28 ?_;refine tK 29 ?_;refine tK 30 ?_;refine tK 31 ?_;refine tK 32 ?_;refine tK 33 ?_;refine tK 34 ?_;refine tK 35 ?_;refine tK 36 ?_;refine tK 37 ?_;refine tK 38 ?_;refine tK 39 ?_;have y:=(j.1).out;replace l:=ze (zX.below l.o y);replace u:=eb_ u y;clear y j B;refine hdn ?_;simp only [xDR];clear I o1 a0 O Q S r N E Y;go_wp2;go_roundw
  case rel=>exact ⟨k+1,n+1,by omega,(ze (by have:=J.o;omega)),by go_num,(by rw [U.o]),l,u⟩
  case measure=>simp [intOf];omega
end Go.Proofs.YtofmkndhocinmaaGreatDoor
