/- Parts of the proof: memory, numbers, walks of the functions that are called. -/
import Derived.Test.YtkmcmmcencdcpaaGreatDoorMt17
import Derived.Test.YtkmcmmcencdcpaaGreatDoorMt19
set_option linter.unusedVariables false
set_option linter.unusedSimpArgs false
set_option maxRecDepth 100000
set_option maxHeartbeats 32000000
namespace Go.Proofs.YtkmcmmcencdcpaaGreatDoor
open Go.RowKit Go.Deep
attribute [local go_sem ↓] Go.wp_at_zero Go.wp_at_succ
def vO (q:Rat) (z:Int):Int:=q.num*z.tdiv q.den
theorem zmr {z y:Int} {M:Nat} (h:len 4294967296 z.natAbs<=M):len 4294967296 (z.tdiv y).natAbs<=M:=by
 rw [Int.natAbs_tdiv]
 exact Nat.le_trans (xS (by omega) (Nat.div_le_self _ _)) h
theorem zai (va vn:Value) (q:Rat) (z:Int) (w:World) (ha:yC w va q) (hn:zR w vn z) (hq:ZW 8388608 q) (hz:len 4294967296 z.natAbs<=33554432):
 Calls Tryz.prog 183 #[va,vn] w (ZK w (vO q z)):=by
 obtain ⟨x1,A1,k1,c1,s1,y1,B1,k1x,c1x,t1,rfl,ha1,ha2⟩:=ha
 obtain ⟨x2,A2,k2,c2,s2,rfl,_,_,_⟩:=hn.form
 have HA1:=ze ha1
 have HA2:=ze ha2
 have HN:=ze hn
 have HQ1:=ze hq.1
 have HQ2:=ze hq.2
 have HZ:=ze hz
 have HD:Hid ((q.den:Int)≠0):=by have:=q.den_nz;show (q.den:Int)≠0;omega
 obtain ⟨W0,hW0⟩:∃ x,x=((w.alloc (.cells #[.int .i64 x1,.slice A1 k1 c1,.bool s1,.int .i64 y1,.slice B1 k1x c1x,.bool t1] 93)).alloc (.cells #[.int .i64 x2,.slice A2 k2 c2,.bool s2] 91)).alloc (.cells #[.int .i64 0,.slice none 0 0,.bool false] 91):=⟨_,rfl⟩
 have hk1:=((Blk.new w 93 #[.int .i64 x1,.slice A1 k1 c1,.bool s1,.int .i64 y1,.slice B1 k1x c1x,.bool t1]).alloc (.cells #[.int .i64 x2,.slice A2 k2 c2,.bool s2] 91)).alloc (.cells #[.int .i64 0,.slice none 0 0,.bool false] 91)
 have hk2:=(Blk.new (w.alloc (.cells #[.int .i64 x1,.slice A1 k1 c1,.bool s1,.int .i64 y1,.slice B1 k1x c1x,.bool t1] 93)) 91 #[.int .i64 x2,.slice A2 k2 c2,.bool s2]).alloc (.cells #[.int .i64 0,.slice none 0 0,.bool false] 91)
 have hk3:=Blk.new ((w.alloc (.cells #[.int .i64 x1,.slice A1 k1 c1,.bool s1,.int .i64 y1,.slice B1 k1x c1x,.bool t1] 93)).alloc (.cells #[.int .i64 x2,.slice A2 k2 c2,.bool s2] 91)) 91 #[.int .i64 0,.slice none 0 0,.bool false]
 have hW:=ext (ext (zf w (.cells #[.int .i64 x1,.slice A1 k1 c1,.bool s1,.int .i64 y1,.slice B1 k1x c1x,.bool t1] 93)) (zf _ (.cells #[.int .i64 x2,.slice A2 k2 c2,.bool s2] 91))) (zf _ (.cells #[.int .i64 0,.slice none 0 0,.bool false] 91))
 simp only [World.size_alloc] at hk2 hk3
 rw [<- hW0] at hk1 hk2 hk3 hW
 have HK1:=ze hk1
 have HK3:=ze hk3
 have HW:=ze hW
 have HB0:=ze (show W0.heap.size=w.heap.size+3 by rw [hW0];simp only [World.size_alloc])
 clear ha1 ha2 hn hq hz hk1 hk2 hk3 hW
 go_enter Tryz.func183,Tryz.ntmps183
 go_wp2_with fail
 rw [<- hW0]
 clear hW0
 refine (V6 _ _ _ _ _ (HN.out.below HW.out) (HA2.out.below HW.out) HD.out HZ.out (Nat.le_trans HQ2.out (by omega))).mono ?_
 rintro e w1 ⟨v,v',rfl,hv,hv',hb1⟩
 obtain ⟨x3,A3,k3,c3,s3,rfl,_,_,_⟩:=hv.form
 obtain ⟨x4,A4,k4,c4,s4,rfl,_,_,_⟩:=hv'.form
 replace HK1:=kb_ HK1 hb1
 replace HK3:=kb_ HK3 hb1
 replace HW:=eb_ HW hb1
 replace HA1:=ze (HA1.out.below HW.out)
 have HV:=ze hv
 have HB1:Hid (w.heap.size+3<=w1.heap.size):=by have:=HB0.out;have:=hb1.size;show _<=_;omega
 clear hv hv' hb1 HB0 HN HA2
 obtain ⟨W1,hW1⟩:∃ x,x=(w1.alloc (.cells #[.int .i64 x3,.slice A3 k3 c3,.bool s3] 91)).alloc (.cells #[.int .i64 x4,.slice A4 k4 c4,.bool s4] 91):=⟨_,rfl⟩
 have hx:=ext (zf w1 (.cells #[.int .i64 x3,.slice A3 k3 c3,.bool s3] 91)) (zf _ (.cells #[.int .i64 x4,.slice A4 k4 c4,.bool s4] 91))
 have hk5:=(Blk.new w1 91 #[.int .i64 x3,.slice A3 k3 c3,.bool s3]).alloc (.cells #[.int .i64 x4,.slice A4 k4 c4,.bool s4] 91)
 rw [<- hW1] at hx hk5
 replace HK1:=kb_ HK1 hx
 replace HK3:=kb_ HK3 hx
 replace HW:=eb_ HW hx
 replace HA1:=ze (HA1.out.below hx)
 replace HV:=ze (HV.out.below hx)
 clear hx
 go_upto_region 2 with fail
 rw [<- hW1]
 clear hW1
 have r0:=HK1.out.cell 0
 have r1:=HK1.out.cell 1
 have r2:=HK1.out.cell 2
 have q0:=hk5.cell 0
 have q1:=hk5.cell 1
 have q2:=hk5.cell 2
 simp at r0 r1 r2 q0 q1 q2
 clear hk5
 go_wp2_with fail
 refine (x7 _ _ _ _ _ HA1.out HV.out (Nat.le_trans HQ1.out (by omega)) (zmr (Nat.le_trans HZ.out (by omega)))).mono ?_
 rintro e w2 ⟨v2,rfl,hv2,hb2⟩
 obtain ⟨x5,A5,k5,c5,s5,rfl,_,_,_⟩:=hv2.form
 replace HK3:=kb_ HK3 hb2
 replace HW:=eb_ HW hb2
 clear HK1 HA1 HV r0 r1 r2 q0 q1 q2 hb2
 have z0:=HK3.out.cell 0
 have z1:=HK3.out.cell 1
 have z2:=HK3.out.cell 2
 have f0:=HK3.out.frozen 0
 have f1:=HK3.out.frozen 1
 have f2:=HK3.out.frozen 2
 simp at z0 z1 z2
 have hk6:=yl (x:=x5) (A:=A5) (k:=k5) (c:=c5) (ng:=s5) HK3.out
 have e0:=hk6.cell 0
 have e1:=hk6.cell 1
 have e2:=hk6.cell 2
 simp only [World.num] at e0 e1 e2
 simp at e0 e1 e2
 have HV6:=ze (zy (x:=x5) (A:=A5) (k:=k5) (c:=c5) (ng:=s5) hv2 HK3.out)
 have HW6:=ze (zN (x:=x5) (A:=A5) (k:=k5) (c:=c5) (ng:=s5) HW.out (show w.heap.size<=w.heap.size+1+1 by omega))
 clear hk6 hv2
 go_wp2_with fail
 refine bodyPost_ret (v:=.agg #[.int .i64 x5,.slice A5 k5 c5,.bool s5]) (by simp [results,Tryz.results183,go_sem,e0,e1,e2]) rfl ?_
 exact ⟨_,rfl,HV6.out,HW6.out⟩
def qOf (l:List UInt8):Rat:=(zp l).getD 0
theorem Xc {l:List UInt8} (h:(zp l).isSome=true):zp l=some (qOf l):=by
 obtain ⟨q,hq⟩:=Option.isSome_iff_exists.1 h
 rw [hq];unfold qOf;rw [hq];rfl
def Zd (d:Int) (l:List zG):Nat->Int
 | 0=>d
 | n+1=>Zd d l n*(Rat.divInt ((qOf (l.getD n default).coef).den:Int) (Zd d l n)).num
def zsu (l:List zG):Prop:=∀ t∈l,(zp t.coef).isSome=true/\ZW 8388608 (qOf t.coef)
structure zct (bound:List UInt8) (l:List zG):Prop where
 bsome:(zp bound).isSome=true
 blen:ZW 8388608 (qOf bound)
 good:zsu l
 nlen:∀ n,n<l.length->len 4294967296 (Rat.divInt ((qOf (l.getD n default).coef).den:Int) (Zd ((qOf bound).den:Int) l n)).num.natAbs<=67108864
 fit:∀ n,n<=l.length->Fit (Zd ((qOf bound).den:Int) l n)/\Zd ((qOf bound).den:Int) l n≠0
def zse (b:Nat) (z:Int) (w:World) (e:Ending) (w' :World):Prop:=∃ v,e= .returned v/\zR w' v z/\zB w' b/\Chg (· =b) w w'
def SclR (w0:World) (b gr gd B:Nat) (tv:Value) (l:List zG) (d:Int) (kv:Value) (wr:World):Prop:=
 ∃ k:Nat,k<=l.length/\kv= .int .i64 k/\Hid (Zw wr gd (Zd d l k))/\Hid (Zw wr gr 0)/\Hid (zB wr b)/\Hid (zk wr B tv l)/\Hid (Chg (· =b) w0 wr)
theorem zB.keepBox {w w' :World} {b g:Nat} {z:Int} (h:zB w b) (hc:Chg (· =b) w w') (hk:Zw w g z):Zw w' g z:=by
 obtain ⟨x,A,n,c,ng,h1,h2⟩:=hk
 exact ⟨x,A,n,c,ng,h.keepBlk hc h1,h.keepN hc h2⟩
theorem zX {S:Nat->Prop} {w w1 w2:World} (h:Chg S w w1) (hb:Below w1.heap.size w1 w2):Chg S w w2:=h.trans (Chg.of_below (S:=S) hb) (fun _ _ h=>h)
theorem yq {S:Nat->Prop} {w w1 w2:World} (h:Chg S w w1) (k:Chg S w1 w2):Chg S w w2:=h.trans k (fun _ _ h=>h)
theorem yC.parts {w:World} {x y:Int} {A B:Option Addr} {k c k' c' :Nat} {s t:Bool} {q:Rat} (h:yC w (.agg #[.int .i64 x,.slice A k c,.bool s,.int .i64 y,.slice B k' c',.bool t]) q):
 zR w (.agg #[.int .i64 x,.slice A k c,.bool s]) q.num/\zR w (.agg #[.int .i64 y,.slice B k' c',.bool t]) (q.den:Int):=by
 obtain ⟨x',A',k1,c1,s',y',B',k2,c2,t',e,h1,h2⟩:=h
 simp only [Value.agg.injEq,Array.mk.injEq,List.cons.injEq,Value.int.injEq,Value.slice.injEq,Value.bool.injEq,and_true,true_and] at e
 obtain ⟨rfl,⟨rfl,rfl,rfl⟩,rfl,rfl,⟨rfl,rfl,rfl⟩,rfl⟩:=e
 exact ⟨h1,h2⟩
theorem zcm (b:Nat) (A:Option Addr) (n c:Nat) (bound:List UInt8) (l:List zG) (w:World) (hB:zB w b) (ht:ya w (.slice A n c) l) (hs:yo bound) (hok:zct bound l):
 Calls Tryz.prog 182 #[.map (some b),.agg #[.slice A n c,str bound]] w (zse b (Zd ((qOf bound).den:Int) l l.length) w):=by
 obtain rfl:=ht.len
 have hbl:=ht.bound
 have HOK:=ze hok
 have HS:=ze hs
 obtain ⟨W0,hW0⟩:∃ x,x=(w.alloc (.cells #[.slice A l.length c,str bound] 49)).alloc (.cells #[.int .i64 0,.slice none 0 0,.bool false] 91):=⟨_,rfl⟩
 have hx:=ext (zf w (.cells #[.slice A l.length c,str bound] 49)) (zf _ (.cells #[.int .i64 0,.slice none 0 0,.bool false] 91))
 have hk1:=(Blk.new w 49 #[.slice A l.length c,str bound]).alloc (.cells #[.int .i64 0,.slice none 0 0,.bool false] 91)
 have hk2:=Blk.new (w.alloc (.cells #[.slice A l.length c,str bound] 49)) 91 #[.int .i64 0,.slice none 0 0,.bool false]
 simp only [World.size_alloc] at hk2
 rw [<- hW0] at hx hk1 hk2
 have HBL:=ze hB.lt
 have HB:=ze (hB.below hx)
 have HT:=ze (zk.below ht hx)
 have HK1:=ze hk1
 have HK2:Hid (Zw W0 (w.heap.size+1) 0):=⟨_,_,_,_,_,hk2,zhw _ _⟩
 have HC:Hid (Chg (· =b) w W0):=Chg.of_below hx
 have hrd:=fun w' (h:zB w' b) (s:List UInt8) (hs:yo s)=>vD b ⟨s.toArray⟩ w' h (by rw [<- zo,yR];exact hs)
 simp only [yR] at hrd
 have HRD:=ze hrd
 clear hB ht hok hs hx hk1 hk2 hrd
 go_enter Tryz.func182,Tryz.ntmps182
 go_wp2_with fail
 rw [<- hW0]
 clear hW0
 refine (HRD.out _ HB.out bound HS.out).mono ?_
 rintro e w1 ⟨v,ok,rfl,⟨x1,A1,k1,c1,s1,y1,B1,k1x,c1x,t1,rfl⟩,hok,hq,hB1,hc1⟩
 have hq1:=hq _ (Xc HOK.out.bsome)
 replace HT:=ze (HB.out.keepT hc1 HT.out)
 replace HK1:=ze (HB.out.keepBlk hc1 HK1.out)
 replace HK2:=ze (HB.out.keepBox hc1 HK2.out)
 replace HC:=ze (yq HC.out hc1)
 replace HB:=ze hB1
 have HQ:=ze hq1
 have HSZ:Hid (w.heap.size<=w1.heap.size):=HC.out.size
 clear hB1 hc1 hq hok hq1
 skip
 obtain ⟨W1,hW1⟩:∃ x,x=(w1.alloc (.cells #[.int .i64 x1,.slice A1 k1 c1,.bool s1,.int .i64 y1,.slice B1 k1x c1x,.bool t1] 93)).alloc (.cells #[.int .i64 y1,.slice B1 k1x c1x,.bool t1] 91):=⟨_,rfl⟩
 have hx:=ext (zf w1 (.cells #[.int .i64 x1,.slice A1 k1 c1,.bool s1,.int .i64 y1,.slice B1 k1x c1x,.bool t1] 93)) (zf _ (.cells #[.int .i64 y1,.slice B1 k1x c1x,.bool t1] 91))
 have hkd:=Blk.new (w1.alloc (.cells #[.int .i64 x1,.slice A1 k1 c1,.bool s1,.int .i64 y1,.slice B1 k1x c1x,.bool t1] 93)) 91 #[.int .i64 y1,.slice B1 k1x c1x,.bool t1]
 simp only [World.size_alloc] at hkd
 rw [<- hW1] at hx hkd
 have HD:Hid (Zw W1 (w1.heap.size+1) (Zd ((qOf bound).den:Int) l 0)):=⟨_,_,_,_,_,hkd,HQ.out.parts.2.below hx⟩
 have HNE:Hid (w.heap.size+1≠w1.heap.size+1):=by have:=HK2.out.lt;show _≠_;omega
 replace HB:=ze (HB.out.below hx)
 replace HT:=ze (zk.below HT.out hx)
 replace HK1:=kb_ HK1 hx
 replace HK2:=ze (HK2.out.below hx)
 replace HC:=ze (zX HC.out hx)
 clear hx hkd HQ
 go_upto_region 3 with fail
 rw [<- hW1]
 clear hW1
 have HGD:Hid (w.heap.size<=w1.heap.size+1):=by have:=HSZ.out;show _<=_;omega
 generalize w1.heap.size+1=gd at HD HNE HGD |-
 have r0:=HK1.out.cell 0
 simp at r0
 go_wp2_with fail
 obtain ⟨gr,hgr⟩:∃ gr,gr=w.heap.size+1:=⟨_,rfl⟩
 rw [<- hgr] at HK2 HNE |-
 have HGR:Hid (w.heap.size<=gr):=by show _<=_;omega
 clear hgr r0 HK1
 obtain ⟨d,HDD⟩:∃ d,Hid (((qOf bound).den:Int)=d):=⟨_,rfl⟩
 rw [HDD.out] at HD |-
 go_loopw [25] (SclR w b gr gd w.heap.size (.slice A l.length c) l d) (fun kv _=>l.length - (intOf kv).toNat)
 case atStart=>exact ⟨0,Nat.zero_le _,rfl,HD,HK2,HB,HT,HC⟩
 case round=>
  clear HD HK2 HB HT HC
  obtain ⟨k,hk,rfl,HD,HK2,HB,HT,HC⟩:=hrel
  by_cases hkl:k<l.length
  . have hki:(k:Int)<(l.length:Int):=by omega
    obtain ⟨ad,eA,hbb,p0,p1,hs1,hs2⟩:=HT.out.at_ hkl;subst eA;have hx:=zf wr (.cells #[str l[k].name,str l[k].coef] 60);have HKT:=ze (Blk.new wr 60 #[str l[k].name,str l[k].coef]);replace HD:=ze (HD.out.below hx);replace HK2:=ze (HK2.out.below hx);replace HB:=ze (HB.out.below hx);replace HT:=ze (zk.below HT.out hx);replace HC:=ze (zX HC.out hx);have HS2:=ze hs2;have hgd:l.getD k default=l[k]:=by simp [List.getD,List.getElem?_eq_getElem hkl]
    have hgood:=HOK.out.good l[k] (List.getElem_mem hkl);have HG:=ze hgood;have HGD2:=ze hgd;clear hx hs1 hs2 hgd hgood
    go_upto_region 6 with fail
    clear p0 p1 hbb;generalize wr.alloc (.cells #[str l[k].name,str l[k].coef] 60)=WL at HKT HD HK2 HB HT HC |-;generalize wr.heap.size=gt at HKT |-;have p1:=HKT.out.cell 1;simp at p1;go_wp2_with fail;refine (HRD.out _ HB.out _ HS2.out).mono ?_;rintro e w2 ⟨v,ok,rfl,⟨x2,A2,k2,c2,s2,y2,B2,k2x,c2x,t2,rfl⟩,hok,hq,hB1,hc1⟩;have hq1:=hq _ (Xc HG.out.1);replace HT:=ze (HB.out.keepT hc1 HT.out);replace HD:=ze (HB.out.keepBox hc1 HD.out);replace HK2:=ze (HB.out.keepBox hc1 HK2.out);replace HC:=ze (yq HC.out hc1);replace HB:=ze hB1;have hx:=zf w2 (.cells #[.int .i64 x2,.slice A2 k2 c2,.bool s2,.int .i64 y2,.slice B2 k2x c2x,.bool t2] 93);have HKC:=ze (Blk.new w2 93 #[.int .i64 x2,.slice A2 k2 c2,.bool s2,.int .i64 y2,.slice B2 k2x c2x,.bool t2]);replace HD:=ze (HD.out.below hx);replace HK2:=ze (HK2.out.below hx);replace HB:=ze (HB.out.below hx);replace HT:=ze (zk.below HT.out hx);replace HC:=ze (zX HC.out hx);have HQ:=ze (hq1.below hx);clear hx hB1 hc1 hq hok hq1 p1 HKT
    go_upto_region 7 with fail
    generalize w2.alloc (.cells #[.int .i64 x2,.slice A2 k2 c2,.bool s2,.int .i64 y2,.slice B2 k2x c2x,.bool t2] 93)=W2 at HKC HD HK2 HB HT HC HQ |-;generalize w2.heap.size=gc at HKC |-;have p3:=HKC.out.cell 3;have p4:=HKC.out.cell 4;have p5:=HKC.out.cell 5;obtain ⟨dx,dA,dn,dc,dg,hkd,hdn⟩:=HD.out;have d0:=hkd.cell 0;have d1:=hkd.cell 1;have d2:=hkd.cell 2;simp at p3 p4 p5 d0 d1 d2;have HDN:=ze hdn;have hfit:=HOK.out.fit k hk;rw [HDD.out] at hfit;have HFI:=ze hfit;clear hkd hdn hfit;go_wp2_with fail;refine (ZZ _ _ _ _ _ HQ.out.parts.2 HDN.out HFI.out.2 (Nat.le_trans HG.out.2.2 (by omega)) (Nat.le_trans HFI.out.1 (by omega))).mono ?_;rintro e w3 ⟨v,rfl,hv,hb1⟩;have hx:=hb1;replace HD:=ze (HD.out.below hx);replace HK2:=ze (HK2.out.below hx);replace HB:=ze (HB.out.below hx);replace HT:=ze (zk.below HT.out hx);replace HC:=ze (zX HC.out hx);clear hx hb1 p3 p4 p5 d0 d1 d2 HKC HDN HQ;obtain ⟨x3,A3,k3,c3,s3,y3,B3,k3x,c3x,t3,rfl,hv1,hv2⟩:=hv;have hx:=zf w3 (.cells #[.int .i64 x3,.slice A3 k3 c3,.bool s3,.int .i64 y3,.slice B3 k3x c3x,.bool t3] 93)
    have HKQ:=ze (Blk.new w3 93 #[.int .i64 x3,.slice A3 k3 c3,.bool s3,.int .i64 y3,.slice B3 k3x c3x,.bool t3]);replace HD:=ze (HD.out.below hx);replace HK2:=ze (HK2.out.below hx);replace HB:=ze (HB.out.below hx);replace HT:=ze (zk.below HT.out hx);replace HC:=ze (zX HC.out hx);have HQ3:=ze (hv1.below hx);clear hx hv1 hv2
    go_upto_region 8 with fail
    generalize w3.alloc (.cells #[.int .i64 x3,.slice A3 k3 c3,.bool s3,.int .i64 y3,.slice B3 k3x c3x,.bool t3] 93)=W3 at HKQ HD HK2 HB HT HC HQ3 |-;generalize w3.heap.size=gq at HKQ |-;have p0:=HKQ.out.cell 0;have p1:=HKQ.out.cell 1;have p2:=HKQ.out.cell 2;obtain ⟨dx,dA,dn,dc,dg,hkd,hdn⟩:=HD.out;have d0:=hkd.cell 0;have d1:=hkd.cell 1;have d2:=hkd.cell 2;simp at p0 p1 p2 d0 d1 d2;have HDN:=ze hdn;have hnl:=HOK.out.nlen k hkl;rw [HDD.out,HGD2.out] at hnl;have HNL:=ze hnl;clear hkd hdn hnl;go_wp2_with fail;refine (x7 _ _ _ _ _ HDN.out HQ3.out (Nat.le_trans HFI.out.1 (by omega)) HNL.out).mono ?_;rintro e w4 ⟨v,rfl,hv,hb1⟩;replace HD:=ze (HD.out.below hb1);replace HK2:=ze (HK2.out.below hb1);replace HB:=ze (HB.out.below hb1);replace HT:=ze (zk.below HT.out hb1);replace HC:=ze (zX HC.out hb1);clear hb1 p0 p1 p2 d0 d1 d2 HKQ HDN HQ3 HNL;obtain ⟨x5,A5,k5,c5,s5,rfl,_,_,_⟩:=hv.form;obtain ⟨dx,dA,dn,dc,dg,hkd,hdn⟩:=HD.out;have d0:=hkd.cell 0;have d1:=hkd.cell 1;have d2:=hkd.cell 2;have f0:=hkd.frozen 0;have f1:=hkd.frozen 1;have f2:=hkd.frozen 2;simp at d0 d1 d2
    have hnd:=hkd.noDig (Xf _ _ _ _ _);have hS:∀ z,z=gd->yn w4 z:=fun z e=>by subst e;exact hnd
    have hcn:=Zx (w:=w4) (g:=gd) (x:=x5) (A:=A5) (n:=k5) (c:=c5) (ng:=s5);have hge:=HGD.out;have hbl:=HBL.out;have hsc:Zd d l (k+1)=Zd d l k*(Rat.divInt ((qOf l[k].coef).den:Int) (Zd d l k)).num:=by rw [<- HGD2.out];rfl
    have HD5:Hid (Zw (World.num w4 gd x5 A5 k5 c5 s5) gd (Zd d l (k+1))):=by rw [hsc];exact VX hkd hv
    have HK5:=ze (HK2.out.chg hcn HNE.out hS);have HB5:=ze (HB.out.chg hcn (by omega) hS);have HT5:=ze (zk.chg HT.out hcn (fun z hz e=>by omega));have HC5:Hid (Chg (· =b) w (World.num w4 gd x5 A5 k5 c5 s5)):=HC.out.trans hcn (fun z hz e=>by omega);clear HD HK2 HB HT HC hkd hdn hv hnd hS hcn hge hbl hsc;go_wp2_with fail;go_roundw
    case rel=>first | exact ⟨k+1,by omega,by go_num,HD5,HK5,HB5,HT5,HC5⟩ | ((repeat apply Exists.intro);exact ⟨⟨k+1,by omega,by go_num,HD5,HK5,HB5,HT5,HC5⟩,rfl⟩)
    case measure=>simp [intOf];omega
  . obtain rfl:k=l.length:=by omega
    obtain ⟨dx,dA,dn,dc,dg,hkd,hdn⟩:=HD.out;have d0:=hkd.cell 0;have d1:=hkd.cell 1;have d2:=hkd.cell 2;obtain ⟨zx,zA,zn,zc,zg,hkz,hzn⟩:=HK2.out;have z0:=hkz.cell 0;have z1:=hkz.cell 1;have z2:=hkz.cell 2;have f0:=hkz.frozen 0;have f1:=hkz.frozen 1;have f2:=hkz.frozen 2;simp at d0 d1 d2 z0 z1 z2;have hk6:=yl (x:=dx) (A:=dA) (k:=dn) (c:=dc) (ng:=dg) hkz;have e0:=hk6.cell 0;have e1:=hk6.cell 1;have e2:=hk6.cell 2;simp only [World.num] at e0 e1 e2;simp at e0 e1 e2;have hnd:=hkz.noDig (Xf _ _ _ _ _);have hS:∀ z,z=gr->yn wr z:=fun z e=>by subst e;exact hnd
    have hcn:=Zx (w:=wr) (g:=gr) (x:=dx) (A:=dA) (n:=dn) (c:=dc) (ng:=dg);have hgr:=HGR.out;have hbl:=HBL.out;have HV:=ze (zy (x:=dx) (A:=dA) (k:=dn) (c:=dc) (ng:=dg) hdn hkz);have HB5:=ze (HB.out.chg hcn (by omega) hS);have HC5:Hid (Chg (· =b) w (World.num wr gr dx dA dn dc dg)):=HC.out.trans hcn (fun z hz e=>by omega);clear HD HK2 HB HT HC hkd hdn hkz hzn hk6 hnd hS hcn hgr hbl;go_wp2_with fail;refine bodyPost_ret (v:=.agg #[.int .i64 dx,.slice dA dn dc,.bool dg]) (by simp [results,Tryz.results182,go_sem,e0,e1,e2]) rfl ?_;exact ⟨_,rfl,by rw [HDD.out];exact HV.out,HB5.out,HC5.out⟩
theorem zd1 {l:List UInt8} {q:Rat} (h:zp l=some q):ZW 67108864 q:=by
 have h1:ZW 50000 q:=(yG.1 h).2.len
 exact ⟨Nat.le_trans h1.1 (by omega),Nat.le_trans h1.2 (by omega)⟩
def X8 (b:Nat) (z:Int) (w:World) (e:Ending) (w' :World):Prop:=e= .returned (.int .i64 z)/\zB w' b/\Chg (· =b) w w'
theorem zim (b:Nat) (l:List UInt8) (w:World) (hB:zB w b) (hs:yo l):Calls Tryz.prog 147 #[.map (some b),str l] w (X8 b (y9 l) w):=by
 have hrd:=vD b ⟨l.toArray⟩ w hB (by rw [<- zo,yR];exact hs)
 rw [yR] at hrd
 have HRD:=ze hrd
 clear hB hs hrd
 go_enter Tryz.func147,Tryz.ntmps147
 go_wp2_with fail
 refine HRD.out.mono ?_
 rintro e w1 ⟨v,ok,rfl,⟨x1,A1,k1,c1,s1,y1,B1,k1x,c1x,t1,rfl⟩,hok,hq,hB1,hc1⟩
 clear HRD
 have hx:=zf w1 (.cells #[.int .i64 x1,.slice A1 k1 c1,.bool s1,.int .i64 y1,.slice B1 k1x c1x,.bool t1] 93)
 have HB:=ze (hB1.below hx)
 have HC:=ze (zX hc1 hx)
 have HX:=ze hx
 clear hB1 hc1 hx
 cases hr:zp l with
 | none=>
   rw [hr] at hok;subst hok;have HE:=ze (show y9 l=4 by unfold y9;rw [hr]);clear hq hr;go_wp2_with fail;go_ret;exact ⟨by rw [HE.out];rfl,HB.out,HC.out⟩
 | some q=>
   rw [hr] at hok;subst hok;have hlong:=fun w' (h:Below w1.heap.size w1 w')=>zdm _ q 12 w' ((hq q hr).below h) (zd1 hr) (by omega) (by omega)
   by_cases hsh:yE 12 q
   . have HE:=ze (show y9 l=0 by unfold y9;rw [hr];exact if_pos hsh)
     rw [decide_eq_true hsh] at hlong;have HL:=ze hlong;clear hq hr hsh hlong;go_wp2_with fail;refine (HL.out _ HX.out).mono ?_;rintro e w2 ⟨rfl,hb2⟩;replace HB:=ze (HB.out.below hb2);replace HC:=ze (zX HC.out hb2);clear hb2 HL HX;go_wp2_with fail;go_ret;exact ⟨by rw [HE.out];rfl,HB.out,HC.out⟩
   . have HE:=ze (show y9 l=3 by unfold y9;rw [hr];exact if_neg hsh)
     rw [decide_eq_false hsh] at hlong;have HL:=ze hlong;clear hq hr hsh hlong;go_wp2_with fail;refine (HL.out _ HX.out).mono ?_;rintro e w2 ⟨rfl,hb2⟩;replace HB:=ze (HB.out.below hb2);replace HC:=ze (zX HC.out hb2);clear hb2 HL HX;go_wp2_with fail;go_ret;exact ⟨by rw [HE.out];rfl,HB.out,HC.out⟩
end Go.Proofs.YtkmcmmcencdcpaaGreatDoor
namespace Go.Proofs.YtkmcmmcencdcpaaGreatDoor
open Go.RowKit
theorem vT {S:Nat->Prop} (W:World):Hid (Chg S W W.drew):=Chg.of_below (zv W).out
theorem vP {S:Nat->Prop} {W w w' :World} (hb:Below w.heap.size w w') (h:Hid (Chg S W w)):Hid (Chg S W w'):=zX h.out hb
theorem Z7 {S:Nat->Prop} {W w w' :World} (hb:Chg S w w') (h:Hid (Chg S W w)):Hid (Chg S W w'):=yq h.out hb
theorem zH {S:Nat->Prop} {W w:World} {p:Addr} {v:Value} (h:Hid (Chg S W w)) (hc:W.cell? p=some v) (hp:¬ S p.block):w.cell? p=some v:=h.out.cell hc hp
structure zex (names:List (List UInt8)) (s:List UInt8):Prop where
 lt:names.idxOf s<names.length
 lo:∀ i (h:i<names.length),i<names.idxOf s->names[i]<s
 hi:∀ i (h:i<names.length),names.idxOf s<=i->¬ names[i]<s
theorem zex.at_ {names:List (List UInt8)} {s:List UInt8} (h:zex names s):names[names.idxOf s]'h.lt=s:=List.getElem_idxOf h.lt
def YD (sc:Int) (l:List zG) (t:Nat):Int:=vO (qOf (l.getD t default).coef) sc
def VM (names:List (List UInt8)) (l:List zG) (t:Nat):Nat:=names.idxOf (l.getD t default).name
def zq1 (names:List (List UInt8)) (b sc:Int) (l:List zG):Nat->Nat->Int
 | 0=>fun k=>if k=0 then b else 0
 | t+1=>fun k=>if k=1+2*VM names l t then -(YD sc l t) else if k=2+2*VM names l t then YD sc l t else zq1 names b sc l t k
def xq (r:yU):Int:=Zd ((qOf r.bound).den:Int) r.terms r.terms.length
def zm4 (names:List (List UInt8)) (r:yU):Nat->Int:=fun k=>
 if k=2*names.length+1 then 1 else zq1 names (vO (qOf r.bound) (xq r)) (xq r) r.terms r.terms.length k
def zpl (rows:List yU) (names:List (List UInt8)) (i:Nat):Nat->Int:=if i<rows.length then zm4 names (rows.getD i default) else fun _=>0
def zsk (nn:Nat) (i:Nat):Nat:=2*nn+i
def zpb (nn m:Nat) (k:Nat):Nat:=if k<2*nn then k else 2*nn+m
def zju (rows:List yU) (i:Nat):Int:=xq (rows.getD i default)
def zmp (rows:List yU) (names:List (List UInt8)):yy:=⟨1,zpl rows names,zsk names.length,zpb names.length rows.length⟩
structure zrw (names:List (List UInt8)) (r:yU):Prop where
 ok:zct r.bound r.terms
 nm:∀ t∈r.terms,zex names t.name
end Go.Proofs.YtkmcmmcencdcpaaGreatDoor
namespace Go.Proofs.YtkmcmmcencdcpaaGreatDoor
open Go.RowKit Go.Deep
theorem Y5 (m:Nat) (f:Nat->Nat):yP m f ++ [.int .i64 (f m:Nat)]=yP (m+1) f:=by
 unfold yP
 rw [List.range_succ,List.map_append]
 rfl
theorem vQ.lt {w:World} {base n:Nat} {v:Value} {f:Nat->Int} (h:vQ w base v n f):∀ c,v.ownBlock=some c->base<=c/\c<w.heap.size:=by
 obtain ⟨xs,h1,_⟩:=h
 exact h1.1.lt
theorem vQ.heap {w:World} {base n:Nat} {v:Value} {f:Nat->Int} (h:vQ w base v n f) {c:Nat} (hc:v.ownBlock=some c):∃ cs,w.heap[c]?=some (.cells cs 91 (0,0)):=by
 obtain ⟨xs,h1,_⟩:=h
 exact h1.heap hc
theorem vQ.noDig {w:World} {base n:Nat} {v:Value} {f:Nat->Int} (h:vQ w base v n f) {c:Nat} (hc:v.ownBlock=some c):yn w c:=by
 obtain ⟨xs,h1,_⟩:=h
 exact h1.2 c hc
def xo (b:Nat) (rv nv mv bv ov:Value):Array Value:=#[.map (some b),rv,nv,mv,.int .i64 1,.slice none 0 0,.bool false,bv,ov]
structure Ve (w0:World) (b m gt N:Nat) (rv nv:Value) (rows:List yU) (names:List (List UInt8)) (g:Nat->Nat) (i1 i2 i3 k:Nat) (mv bv ov sv:Value) (cs:Array Value) (w:World):Prop where
 blk:Blk w gt 196 cs
 cnd:vN cs
 mat:vC w0.heap.size w mv (2*names.length+2) i1 g (zpl rows names)
 bas:vJ w w0.heap.size 3 1 bv i2 (yP i2 (zsk names.length))
 oth:vJ w w0.heap.size 3 1 ov k (yP k (zpb names.length m))
 scl:vQ w w0.heap.size sv i3 (zju rows)
 book:zB w b
 rws:zV w w0.heap.size rv rows
 nms:yg w w0.heap.size nv names
 chg:Chg (· =b) w0 w
 sne:∀ j,j<i1->sv.ownBlock≠some (g j)
 one:∀ c,bv.ownBlock=some c->ov.ownBlock≠some c
 lo:w0.heap.size<=gt
 top:N<=w.heap.size
 hb:b<w0.heap.size
 gtN:gt<N
 gN:∀ j,j<i1->g j<N
 oN:∀ c,mv.ownBlock=some c\/bv.ownBlock=some c\/ov.ownBlock=some c\/sv.ownBlock=some c->c<N
section
variable {w0 w w' :World} {b m gt N:Nat} {rv nv:Value} {rows:List yU} {names:List (List UInt8)} {g:Nat->Nat} {i1 i2 i3 k:Nat} {mv bv ov sv:Value} {cs:Array Value}
theorem Ve.far {S:Nat->Prop} (h:Ve w0 b m gt N rv nv rows names g i1 i2 i3 k mv bv ov sv cs w) (hc:Chg S w w') (hS:∀ x,S x->N<=x/\yn w x):Ve w0 b m gt N rv nv rows names g i1 i2 i3 k mv bv ov sv cs w' :=by
 have hlo:=h.lo
 have hgt:=h.gtN
 have hw0:=h.chg.size
 have hD:∀ x,S x->yn w x:=fun x hx=>(hS x hx).2
 have hN:∀ x,S x->N<=x:=fun x hx=>(hS x hx).1
 exact ⟨hc.blk h.blk (fun e=>by have:=hN _ e;omega),h.cnd,h.mat.chg hc (fun i hi e=>by have:=hN _ e;have:=h.gN i hi;omega) (fun c hc2 e=>by have:=hN _ e;have:=h.oN c (.inl hc2);omega) hD,
  h.bas.chg hc (fun c hc2 e=>by have:=hN _ e;have:=h.oN c (.inr (.inl hc2));omega),h.oth.chg hc (fun c hc2 e=>by have:=hN _ e;have:=h.oN c (.inr (.inr (.inl hc2)));omega),
  h.scl.chg hc (fun c hc2 e=>by have:=hN _ e;have:=h.oN c (.inr (.inr (.inr hc2)));omega) hD,h.book.chg hc (fun e=>by have:=hN _ e;have:=h.hb;omega) hD,
  h.rws.chg hc (fun x hx e=>by have:=hN _ e;omega),h.nms.chg hc (fun x hx e=>by have:=hN _ e;omega),h.chg.trans hc (fun x hx e=>by have:=hN _ e;omega),
  h.sne,h.one,h.lo,Nat.le_trans h.top hc.size,h.hb,h.gtN,h.gN,h.oN⟩
theorem Ve.below (h:Ve w0 b m gt N rv nv rows names g i1 i2 i3 k mv bv ov sv cs w) (hb:Below w.heap.size w w'):Ve w0 b m gt N rv nv rows names g i1 i2 i3 k mv bv ov sv cs w' :=
 h.far (S:=fun _=>False) (Chg.of_below hb) (fun _ h=>h.elim)
theorem Ve.read (h:Ve w0 b m gt N rv nv rows names g i1 i2 i3 k mv bv ov sv cs w) (hc:Chg (· =b) w w') (hb:zB w' b):Ve w0 b m gt N rv nv rows names g i1 i2 i3 k mv bv ov sv cs w' :=by
 have hD:∀ x,x=b->yn w x:=fun x e=>by subst e;exact h.book.noDig
 have hbb:=h.hb
 have hlo:=h.lo
 exact ⟨hc.blk h.blk (fun e=>by omega),h.cnd,h.mat.chg hc (fun i hi e=>by have:=(h.mat.rows i hi).1;omega) (fun c hc2 e=>by have:=(h.mat.own.1.lt c hc2).1;omega) hD,
  h.bas.chg hc (fun c hc2 e=>by have:=(h.bas.1.lt c hc2).1;omega),h.oth.chg hc (fun c hc2 e=>by have:=(h.oth.1.lt c hc2).1;omega),
  h.scl.chg hc (fun c hc2 e=>by have:=(h.scl.lt c hc2).1;omega) hD,hb,h.book.keepRows hc h.rws,h.nms.chg hc (fun _ _ e=>by subst e;exact h.book.noCells),yq h.chg hc,
  h.sne,h.one,h.lo,Nat.le_trans h.top hc.size,h.hb,h.gtN,h.gN,h.oN⟩
theorem vH {v:Value} (hg:w.grownBy w' v.ownBlock):Chg (fun b=>v.ownBlock=some b) w w' :=⟨hg.os,hg.tape,hg.output,hg.size,fun k hk hS=>hg.block k hk (fun e=>hS e.symm)⟩
theorem Z1 {x:Nat} {cs1 cs2:Array Value} {t1 t2:TypeId} {f1 f2:Nat×Nat} (h1:w.heap[x]?=some (.cells cs1 t1 f1)) (h2:w.heap[x]?=some (.cells cs2 t2 f2)):t1=t2:=by
 rw [h1] at h2
 injection h2 with h2
 injection h2
theorem Ve.scales {sv' :Value} (h:Ve w0 b m gt N rv nv rows names g i1 i2 i3 k mv bv ov sv cs w) (hP:vQ w' w0.heap.size sv' (i3+1) (zju rows)) (hg:w.grownBy w' sv.ownBlock) (hat:sv'.ownBlock=sv.ownBlock\/sv'.ownBlock=some w.heap.size):
 Ve w0 b m gt w'.heap.size rv nv rows names g i1 i2 (i3+1) k mv bv ov sv' cs w' :=by
 have hc:=vH hg
 have hD:∀ x,sv.ownBlock=some x->yn w x:=fun x e=>h.scl.noDig e
 have hty:∀ x e' v size n xs,e' ≠91->vJ w w0.heap.size e' size v n xs->v.ownBlock=some x->¬ sv.ownBlock=some x:=fun x e' v size n xs hne ho hx hs=>by
  obtain ⟨cs,k1⟩:=h.scl.heap hs
  obtain ⟨cs',k2⟩:=ho.heap hx
  exact hne (Z1 k2 k1)
 have hbb:=h.hb
 have hlo:=h.lo
 have htop:=h.top
 have hsz:=hc.size
 have hcell:∀ x,sv.ownBlock=some x->w0.heap.size<=x:=fun x e=>(h.scl.lt x e).1
 refine ⟨hc.blk h.blk (fun e=>?_),h.cnd,h.mat.chg hc (fun i hi e=>h.sne i hi e) (fun c hc2 e=>hty _ _ _ _ _ _ (by decide) h.mat.own hc2 e) hD,
  h.bas.chg hc (fun c hc2 e=>hty _ _ _ _ _ _ (by decide) h.bas hc2 e),h.oth.chg hc (fun c hc2 e=>hty _ _ _ _ _ _ (by decide) h.oth hc2 e),hP,
  h.book.chg hc (fun e=>by have:=hcell _ e;omega) hD,h.rws.chg hc (fun x hx e=>by have:=hcell _ e;omega),h.nms.chg hc (fun x hx e=>by have:=hcell _ e;omega),
  h.chg.trans hc (fun x hx e=>by have:=hcell _ e;omega),fun j hj e=>?_,h.one,h.lo,Nat.le_refl _,h.hb,by have:=h.gtN;omega,fun j hj=>by have:=h.gN j hj;omega,fun c hc2=>?_⟩
 . obtain ⟨cs,k1⟩:=h.scl.heap e
   exact xM h.blk k1 (by decide) rfl
 . rcases hat with e2 | e2
   . exact h.sne j hj (by rw [<- e2];exact e)
   . rw [e2] at e;injection e with e;have:=h.gN j hj;omega
 . rcases hc2 with h1 | h1 | h1 | h1
   . have:=h.oN c (.inl h1);omega
   . have:=h.oN c (.inr (.inl h1));omega
   . have:=h.oN c (.inr (.inr (.inl h1)));omega
   . exact (hP.lt c h1).2
theorem Ve.row {mv' :Value} {gl:Nat} {f:Nat->Int} (h:Ve w0 b m gt N rv nv rows names g i1 i2 i3 k mv bv ov sv cs w) (hr:xy w gl (2*names.length+2) (2*names.length+2) f) (hgl:N<=gl) (hf:∀ j,j<2*names.length+2->zpl rows names i1 j=f j)
 (hown:vJ w' w0.heap.size 187 1 mv' (i1+1) (((List.range i1).map fun i=>zho (2*names.length+2) (g i)) ++ [zho (2*names.length+2) gl])) (hg:w.grownBy w' mv.ownBlock):
 Ve w0 b m gt w'.heap.size rv nv rows names (fun i=>if i=i1 then gl else g i) (i1+1) i2 i3 k mv' bv ov sv cs w' :=by
 have hc:=vH hg
 have hlo:=h.lo
 have hgt:=h.gtN
 have hbb:=h.hb
 have htop:=h.top
 have hsz:=hc.size
 have hgls:=hr.lt
 have hD:∀ x,mv.ownBlock=some x->yn w x:=fun x e=>h.mat.own.2 x e
 have hcell:∀ x,mv.ownBlock=some x->w0.heap.size<=x:=fun x e=>(h.mat.own.1.lt x e).1
 have hty:∀ x e' v size n xs,e' ≠187->vJ w w0.heap.size e' size v n xs->v.ownBlock=some x->¬ mv.ownBlock=some x:=fun x e' v size n xs hne ho hx hs=>by
  obtain ⟨cs,k1⟩:=h.mat.own.heap hs
  obtain ⟨cs',k2⟩:=ho.heap hx
  exact hne (Z1 k2 k1)
 have hM:=h.mat.push hr (by omega) (fun j hj=>by have:=h.gN j hj;omega) hown hg (fun j hj=>hf j hj)
 refine ⟨hc.blk h.blk (fun e=>?_),h.cnd,hM,h.bas.chg hc (fun c hc2 e=>hty _ _ _ _ _ _ (by decide) h.bas hc2 e),h.oth.chg hc (fun c hc2 e=>hty _ _ _ _ _ _ (by decide) h.oth hc2 e),
  h.scl.chg hc (fun c hc2 e=>?_) hD,h.book.chg hc (fun e=>by have:=hcell _ e;omega) hD,
  h.rws.chg hc (fun x hx e=>by have:=hcell _ e;omega),h.nms.chg hc (fun x hx e=>by have:=hcell _ e;omega),
  h.chg.trans hc (fun x hx e=>by have:=hcell _ e;omega),fun j hj e=>?_,h.one,h.lo,Nat.le_refl _,h.hb,by omega,fun j hj=>?_,fun c hc2=>?_⟩
 . obtain ⟨cs,k1⟩:=h.mat.own.heap e
   exact xM h.blk k1 (by decide) rfl
 . obtain ⟨cs,k1⟩:=h.mat.own.heap e
   obtain ⟨cs',k2⟩:=h.scl.heap hc2;exact absurd (Z1 k1 k2) (by decide)
 . by_cases e1:j=i1
   . simp only [if_pos e1] at e
     have:=h.oN _ (.inr (.inr (.inr e)))
     omega
   . simp only [if_neg e1] at e
     exact h.sne j (by omega) e
 . by_cases e1:j=i1
   . simp only [if_pos e1];omega
   . simp only [if_neg e1];have:=h.gN j (by omega);omega
 . rcases hc2 with h1 | h1 | h1 | h1
   . exact (hown.1.lt c h1).2
   . have:=h.oN c (.inr (.inl h1));omega
   . have:=h.oN c (.inr (.inr (.inl h1)));omega
   . have:=h.oN c (.inr (.inr (.inr h1)));omega
theorem Ve.basic {bv' :Value} (h:Ve w0 b m gt N rv nv rows names g i1 i2 i3 k mv bv ov sv cs w) (hown:vJ w' w0.heap.size 3 1 bv' (i2+1) (yP (i2+1) (zsk names.length))) (hg:w.grownBy w' bv.ownBlock) (hat:bv'.ownBlock=bv.ownBlock\/bv'.ownBlock=some w.heap.size):
 Ve w0 b m gt w'.heap.size rv nv rows names g i1 (i2+1) i3 k mv bv' ov sv cs w' :=by
 have hc:=vH hg
 have hlo:=h.lo
 have hgt:=h.gtN
 have hbb:=h.hb
 have htop:=h.top
 have hsz:=hc.size
 have hD:∀ x,bv.ownBlock=some x->yn w x:=fun x e=>h.bas.2 x e
 have hcell:∀ x,bv.ownBlock=some x->w0.heap.size<=x:=fun x e=>(h.bas.1.lt x e).1
 refine ⟨hc.blk h.blk (fun e=>?_),h.cnd,h.mat.chg hc (fun i hi e=>?_) (fun c hc2 e=>?_) hD,hown,h.oth.chg hc (fun c hc2 e=>h.one c e hc2),
  h.scl.chg hc (fun c hc2 e=>?_) hD,h.book.chg hc (fun e=>by have:=hcell _ e;omega) hD,
  h.rws.chg hc (fun x hx e=>by have:=hcell _ e;omega),h.nms.chg hc (fun x hx e=>by have:=hcell _ e;omega),
  h.chg.trans hc (fun x hx e=>by have:=hcell _ e;omega),h.sne,fun c hc2 e=>?_,h.lo,Nat.le_refl _,h.hb,by omega,fun j hj=>by have:=h.gN j hj;omega,fun c hc2=>?_⟩
 . obtain ⟨cs,k1⟩:=h.bas.heap e
   exact xM h.blk k1 (by decide) rfl
 . obtain ⟨cs,k1⟩:=h.bas.heap e
   obtain ⟨cs',k2⟩:=(h.mat.rows i hi).2.heap;exact absurd (Z1 k1 k2) (by decide)
 . obtain ⟨cs,k1⟩:=h.bas.heap e
   obtain ⟨cs',k2⟩:=h.mat.own.heap hc2;exact absurd (Z1 k1 k2) (by decide)
 . obtain ⟨cs,k1⟩:=h.bas.heap e
   obtain ⟨cs',k2⟩:=h.scl.heap hc2;exact absurd (Z1 k1 k2) (by decide)
 . rcases hat with e2 | e2
   . exact h.one c (by rw [<- e2];exact hc2) e
   . rw [e2] at hc2;injection hc2 with hc2;have:=h.oN c (.inr (.inr (.inl e)));omega
 . rcases hc2 with h1 | h1 | h1 | h1
   . have:=h.oN c (.inl h1);omega
   . exact (hown.1.lt c h1).2
   . have:=h.oN c (.inr (.inr (.inl h1)));omega
   . have:=h.oN c (.inr (.inr (.inr h1)));omega
theorem Ve.other {ov' :Value} (h:Ve w0 b m gt N rv nv rows names g i1 i2 i3 k mv bv ov sv cs w) (hown:vJ w' w0.heap.size 3 1 ov' (k+1) (yP (k+1) (zpb names.length m))) (hg:w.grownBy w' ov.ownBlock) (hat:ov'.ownBlock=ov.ownBlock\/ov'.ownBlock=some w.heap.size):
 Ve w0 b m gt w'.heap.size rv nv rows names g i1 i2 i3 (k+1) mv bv ov' sv cs w' :=by
 have hc:=vH hg
 have hlo:=h.lo
 have hgt:=h.gtN
 have hbb:=h.hb
 have htop:=h.top
 have hsz:=hc.size
 have hD:∀ x,ov.ownBlock=some x->yn w x:=fun x e=>h.oth.2 x e
 have hcell:∀ x,ov.ownBlock=some x->w0.heap.size<=x:=fun x e=>(h.oth.1.lt x e).1
 refine ⟨hc.blk h.blk (fun e=>?_),h.cnd,h.mat.chg hc (fun i hi e=>?_) (fun c hc2 e=>?_) hD,h.bas.chg hc (fun c hc2 e=>h.one c hc2 e),hown,
  h.scl.chg hc (fun c hc2 e=>?_) hD,h.book.chg hc (fun e=>by have:=hcell _ e;omega) hD,
  h.rws.chg hc (fun x hx e=>by have:=hcell _ e;omega),h.nms.chg hc (fun x hx e=>by have:=hcell _ e;omega),
  h.chg.trans hc (fun x hx e=>by have:=hcell _ e;omega),h.sne,fun c hc2 e=>?_,h.lo,Nat.le_refl _,h.hb,by omega,fun j hj=>by have:=h.gN j hj;omega,fun c hc2=>?_⟩
 . obtain ⟨cs,k1⟩:=h.oth.heap e
   exact xM h.blk k1 (by decide) rfl
 . obtain ⟨cs,k1⟩:=h.oth.heap e
   obtain ⟨cs',k2⟩:=(h.mat.rows i hi).2.heap;exact absurd (Z1 k1 k2) (by decide)
 . obtain ⟨cs,k1⟩:=h.oth.heap e
   obtain ⟨cs',k2⟩:=h.mat.own.heap hc2;exact absurd (Z1 k1 k2) (by decide)
 . obtain ⟨cs,k1⟩:=h.oth.heap e
   obtain ⟨cs',k2⟩:=h.scl.heap hc2;exact absurd (Z1 k1 k2) (by decide)
 . rcases hat with e2 | e2
   . exact h.one c hc2 (by rw [<- e2];exact e)
   . rw [e2] at e;injection e with e;have:=h.oN c (.inr (.inl hc2));omega
 . rcases hc2 with h1 | h1 | h1 | h1
   . have:=h.oN c (.inl h1);omega
   . have:=h.oN c (.inr (.inl h1));omega
   . exact (hown.1.lt c h1).2
   . have:=h.oN c (.inr (.inr (.inr h1)));omega
theorem Ve.store (h:Ve w0 b m gt N rv nv rows names g i1 i2 i3 k mv bv ov sv cs w) (j:Nat) {u:Value} (hu:ZO u):Ve w0 b m gt N rv nv rows names g i1 i2 i3 k mv bv ov sv (cs.setIfInBounds j u) (w.setCell ⟨gt,j,none⟩ u):=by
 have hlo:=h.lo
 have hgt:=h.gtN
 have hbb:=h.hb
 have htop:=h.top
 have hct:Chg (· =gt) w (w.setCell ⟨gt,j,none⟩ u):=Chg.setCell (S:=(· =gt)) (Chg.refl w) (p:=⟨gt,j,none⟩) rfl _
 have hDt:∀ x,x=gt->yn w x:=fun x e=>by subst e;exact h.blk.noDig h.cnd
 have hst:(w.setCell ⟨gt,j,none⟩ u).heap.size=w.heap.size:=by simp [World.setCell]
 have hnt:∀ x e' v size n xs,e' ≠196->vJ w w0.heap.size e' size v n xs->v.ownBlock=some x->¬ x=gt:=fun x e' v size n xs hne ho hx e=>by
  subst e
  obtain ⟨cs',k2⟩:=ho.heap hx
  exact xM h.blk k2 (fun e=>hne e.symm) rfl
 refine ⟨h.blk.set_ j u,xi h.cnd hu j,h.mat.chg hct (fun i hi e=>?_) (fun c hc2 e=>hnt _ _ _ _ _ _ (by decide) h.mat.own hc2 e) hDt,h.bas.chg hct (fun c hc2 e=>hnt _ _ _ _ _ _ (by decide) h.bas hc2 e),
  h.oth.chg hct (fun c hc2 e=>hnt _ _ _ _ _ _ (by decide) h.oth hc2 e),h.scl.chg hct (fun c hc2 e=>?_) hDt,h.book.chg hct (fun e=>by omega) hDt,
  h.rws.chg hct (fun x hx e=>by omega),h.nms.chg hct (fun x hx e=>by omega),h.chg.trans hct (fun x hx e=>by omega),h.sne,h.one,h.lo,by rw [hst];exact htop,h.hb,h.gtN,h.gN,h.oN⟩
 . obtain ⟨cs,k1⟩:=(h.mat.rows i hi).2.heap
   rw [e] at k1;exact xM h.blk k1 (by decide) rfl
 . subst e
   obtain ⟨cs,k1⟩:=h.scl.heap hc2;exact xM h.blk k1 (by decide) rfl
end
theorem vj {P:Program} {w:World} {o:Oper} {a:Act} {K:Act->World->Prop} {Q:Exit->Act->World->Prop} (s x:Operand) (t:TypeId)
 (ho:o.op= .call { callee:=.builtin .append,args:=#[s,x],argTypes:=#[t,t] })
 (base:Nat) (e:TypeId) (i:TypeInfo) (z:Value) (size bytes:Nat) (ht:P.underlying t=some (.slice e)) (hi:P.info? e=some i) (hz:i.zero=some z)
 (hsize:i.size=size) (hby:i.bytes=bytes) (hzs:z.cells.size=size) (hsz:0<size)
 (v:Value) (n:Nat) (xs:List Value) (hs:a.eval s=v) (hown:vJ w base e size v n xs)
 (ad:Addr) (m c:Nat) (news:List Value) (hx:a.eval x= .slice (some ad) m c) (hl:news.length=m*size) (hm:0<m) (hnews:∀ j u,news[j]?=some u->w.cell? (ad.add j)=some u) (h1:∀ u∈news,u.oneCell' =true)
 (hno:∀ u∈news,ZO u) (hzn:∀ u∈z.cells,ZO u) (h63:n+m<=maxLen) (hbytes:(n+m)*bytes<=140737488355328) (hbase:base<=w.heap.size)
 (h:∀ v' w',vJ w' base e size v' (n+m) (xs ++ news)->w.grownBy w' v.ownBlock->(v'.ownBlock=v.ownBlock\/v'.ownBlock=some w.heap.size)->K (a.put o.dst v') w'):Oper.wp P o a w K Q:=by
 obtain ⟨v',w',hrun,h2,h3,h4⟩:=Yl (P:=P) w base t o.type e i z size bytes ht hi hz hsize hby hzs hsz v n xs hown ad m c news hl hm hnews h1 hno hzn h63 hbytes hbase
 unfold Oper.wp execOp
 simp only [ho,resolve,invoke,builtin,Sem.run_bind,Sem.run_pure,Result.andThen_ok,List.map_toArray,List.map_cons,List.map_nil,hs,hx,hrun]
 exact h v' w' h2 h3 h4
end Go.Proofs.YtkmcmmcencdcpaaGreatDoor
namespace Go.Proofs.YtkmcmmcencdcpaaGreatDoor
open Go.RowKit Go.Deep
attribute [local go_sem ↓] Go.wp_at_zero Go.wp_at_succ
theorem zks {z:Int}:(zK z 0>0)↔0<z:=by
 unfold zK
 split
 . omega
 . split<;>omega
theorem yy.enter_yes {T:yy} {m n:Nat} {but:Int} (h1:(T.other n:Int)≠but) (h2:0<T.cell m (n+1)) (h3:T.enter m but n=0\/T.other n<T.other (T.enter m but n - 1)):T.enter m but (n+1)=n+1:=by
 show (if _ then _ else _)=_
 rw [if_pos ⟨h1,h2,h3⟩]
theorem yy.enter_no {T:yy} {m n:Nat} {but:Int} (h:¬ ((T.other n:Int)≠but/\0<T.cell m (n+1)/\(T.enter m but n=0\/T.other n<T.other (T.enter m but n - 1)))):T.enter m but (n+1)=T.enter m but n:=by
 show (if _ then _ else _)=_
 rw [if_neg h]
def EntR (w0:World) (base m L:Nat) (F:zS) (T:yy) (but:Int) (bv kv:Value) (wr:World):Prop:=
 ∃ k n:Nat,k<=L/\Hid (k=n+1)/\kv= .int .i64 (k:Nat)/\bv= .int .i64 (T.enter m but n:Nat)/\Hid (yb base m L F wr T)/\Hid (Below w0.heap.size w0 wr)
theorem zbt (base m L:Nat) (F:zS) (T:yy) (but:Int) (w:World) (hT:yb base m L F w T) (hm:m<=100000) (hL:L<=100000):
 Calls Tryz.prog 189 #[.pointer (some ⟨F.gt,0,none⟩),.int .i64 but] w (Vc w (.int .i64 (T.enter m but (L - 1):Nat))):=by
 have t3:=hT.cell3
 have t1:=hT.cell1
 have t4:=hT.mat.cell (i:=m) (by omega)
 have hmi:(m:Int)<(m:Int)+1:=by omega
 have HT:=ze hT
 have HL2:=ze hT.lt2
 clear hT
 go_enter Tryz.func189,Tryz.ntmps189
 go_upto_region 2 with fail
 skip
 go_region
 skip
 have HT1:=ze (HT.out.below (zv w).out)
 have HW:=zv w
 clear HT t3 t1 t4
 generalize w.drew=W1 at HT1 HW |-
 go_wp2_with fail
 skip
 go_loopw [5,7] (EntR w base m L F T but) (fun _ kv _=>L - (intOf kv).toNat)
 case atStart=>exact ⟨1,0,by have:=HL2.out;omega,rfl,rfl,rfl,HT1,HW⟩
 case round=>
  clear HT1 HW
  obtain ⟨k,n,hn,HKN,rfl,rfl,HT,HW⟩:=hrel
  have hk0:0<k:=by have:=HKN.out;omega
  by_cases hlt:k<L
  . have hki:(k:Int)<(L:Int):=by omega
    obtain ⟨go,co,eo,hgo,hoc⟩:=HT.out.others;have t8:=HT.out.cell8;rw [eo] at t8;have hkn:=HKN.out;have o1:=hoc n (by omega);have ek:n=k - 1:=by omega
    have o1:wr.cell? ⟨go,k - 1,none⟩=some (.int .i64 (T.other n:Nat)):=by rw [<- ek];exact o1
    have hnl:(k:Int) - 1<((L - 1:Nat):Int):=by omega
    have hk1:(1:Int)<=(k:Int):=by omega
    have hwr:IntKind.i64.wrap ((k:Int) - 1)=(k:Int) - 1:=by rw [IntKind.wrap_i64];omega
    have hk2:(0:Int)<=(k:Int) - 1:=by omega
    have hk3:((k:Int) - 1).toNat=k - 1:=by omega
    have tL:=HT.out.lt;obtain ⟨ax,aA,an,ac,ag,a0,a1,a2,ha⟩:=HT.out.mat.at_ (i:=m) (k:=k) (by omega) hlt;have aL:=(HT.out.mat.rows m (by omega)).2.lt;have hle:=T.enter_le m but n;obtain ⟨b,HBE⟩:∃ b,Hid (T.enter m but n=b):=⟨_,rfl⟩;rw [HBE.out] at hle |-;have hbk:b<k:=by omega
    rw [hkn] at ha;have HA:=ze ha;clear ha hkn ek hle
    skip
    by_cases h1:(T.other n:Int)=but
    . have d1:((T.other n:Int) != but)=false:=by rw [bne_eq_false_iff_eq];exact h1
      have HEN:Hid (T.enter m but (n+1)=b):=(T.enter_no fun h=>h.1 h1).trans HBE.out;clear h1
      go_upto_region 6 with fail
      skip
      refine zr (S:=fun w' =>Hid (Below wr.heap.size wr w')/\w'.cell? ⟨F.gt,8,none⟩=some (.slice (some ⟨go,0,none⟩) (L - 1) co)/\w'.cell? ⟨go,k - 1,none⟩=some (.int .i64 (T.other n:Nat))/\w'.cell? ⟨F.g m,k*3,none⟩=some (.int .i64 ax)/\w'.cell? ⟨F.g m,k*3+1,none⟩=some (.slice aA an ac)/\w'.cell? ⟨F.g m,k*3+2,none⟩=some (.bool ag)) 11 29 40 rfl (by kernel_rfl) (by kernel_rfl) (by kernel_rfl) rfl (zm (zv wr) (fun hB=>⟨zh hB tL t8,zh hB hgo o1,zh hB aL a0,zh hB aL a1,zh hB aL a2⟩)) ?_ (fun hHeld=>?_)
      . intro _ _ _ _ _ h9;exact h9
      simp only [List.take_succ_cons,List.take_zero]
      iterate 11 refine zW ?_
      refine zM ?_;refine HH.sk 11 ?_;refine HH.sk 12 ?_;refine HH.sk 13 ?_;refine HH.sk 14 ?_;refine HH.sk 15 ?_;refine HH.sk 16 ?_;refine HH.tk 17 ?_;refine HH.tk 18 ?_;refine HH.sk 19 ?_;refine HH.sk 20 ?_;refine HH.sk 21 ?_;refine HH.sk 22 ?_;refine HH.sk 23 ?_;refine HH.sk 24 ?_;refine HH.sk 25 ?_;refine HH.sk 26 ?_;refine HH.sk 27 ?_;refine HH.sk 28 ?_;refine HH.sk 29 ?_;refine HH.sk 30 ?_;refine HH.sk 31 ?_;refine HH.sk 32 ?_;refine HH.sk 33 ?_;refine HH.sk 34 ?_;refine HH.sk 35 ?_;refine HH.sk 36 ?_;refine HH.sk 37 ?_;refine HH.sk 38 ?_;refine HH.sk 39 ?_;have HBY:=(hHeld.1).out;replace HT:=ze (yb.below HT.out HBY);replace HW:=eb_ HW HBY;clear HBY hHeld;refine HH.done (by kernel_rfl) ?_;simp only [List.drop_succ_cons,List.drop_zero];clear t8 o1 a0 a1 a2 HA aL tL hgo hoc;go_wp2_with fail;go_roundw
      case rel=>exact ⟨k+1,n+1,by omega,(ze (by have:=HKN.out;omega)),by go_num,(by rw [HEN.out]),HT,HW⟩
      case measure=>simp [intOf];omega
    . have d1:((T.other n:Int) != but)=true:=by rw [bne_iff_ne];exact h1
      obtain ⟨sg,hsg⟩:∃ sg:Int,zK (T.cell m (n+1)) 0=sg:=⟨_,rfl⟩;have hcp:=zks (z:=T.cell m (n+1));rw [hsg] at hcp;have HSG:=ze hsg;have sign1:=fun w' (h:zR w' (.agg #[.int .i64 ax,.slice aA an ac,.bool ag]) (T.cell m (n+1)))=>Yr _ _ w' h
      rw [hsg] at sign1;clear hsg
      by_cases h2:0<T.cell m (n+1)
      . have d2:decide (sg>0)=true:=by rw [decide_eq_true_iff];exact hcp.2 h2
        by_cases h3:b=0
        . have d3:((b:Int) == 0)=true:=by rw [beq_iff_eq];omega
          have HEN:Hid (T.enter m but (n+1)=n+1):=T.enter_yes h1 h2 (.inl (HBE.out.trans h3));clear h1 h2 h3 hcp
          go_upto_region 6 with fail
          skip
          refine zr (S:=fun w' =>Hid (Below wr.heap.size wr w')/\w'.cell? ⟨F.gt,8,none⟩=some (.slice (some ⟨go,0,none⟩) (L - 1) co)/\w'.cell? ⟨go,k - 1,none⟩=some (.int .i64 (T.other n:Nat))/\w'.cell? ⟨F.g m,k*3,none⟩=some (.int .i64 ax)/\w'.cell? ⟨F.g m,k*3+1,none⟩=some (.slice aA an ac)/\w'.cell? ⟨F.g m,k*3+2,none⟩=some (.bool ag)) 11 29 40 rfl (by kernel_rfl) (by kernel_rfl) (by kernel_rfl) rfl (zm (zv wr) (fun hB=>⟨zh hB tL t8,zh hB hgo o1,zh hB aL a0,zh hB aL a1,zh hB aL a2⟩)) ?_ (fun hHeld=>?_)
          . intro _ _ _ _ _ h9;exact h9
          simp only [List.take_succ_cons,List.take_zero]
          iterate 11 refine zW ?_
          refine zM ?_;refine HH.tk 11 ?_;refine HH.tk 12 ?_;refine HH.tk 13 ?_;refine HH.tk 14 ?_;refine HH.rd 15 (fun K hK=>?_);rw [if_pos (by rfl)]
          go_simp
          go_at_call 108;refine (sign1 _ (HA.out.below hHeld.1.out)).mono ?_;rintro e w1 ⟨rfl,hb1⟩;have hH0:=hHeld;clear hHeld;refine hK.out _ _ (zm (zt hb1 hH0.1) (fun hB=>⟨zh hB tL t8,zh hB hgo o1,zh hB aL a0,zh hB aL a1,zh hB aL a2⟩)) (fun hHeld=>?_);clear hH0 hK K
          try simp only [Act.put,List.setIfInBounds_toArray,List.set_cons_zero,List.set_cons_succ]
          clear hb1;refine HH.tk 16 ?_;refine HH.tk 17 ?_;refine HH.tk 18 ?_;refine HH.tk 19 ?_;refine HH.tk 20 ?_;refine HH.tk 21 ?_;refine HH.sk 22 ?_;refine HH.sk 23 ?_;refine HH.sk 24 ?_;refine HH.sk 25 ?_;refine HH.sk 26 ?_;refine HH.sk 27 ?_;refine HH.sk 28 ?_;refine HH.sk 29 ?_;refine HH.sk 30 ?_;refine HH.sk 31 ?_;refine HH.sk 32 ?_;refine HH.sk 33 ?_;refine HH.sk 34 ?_;refine HH.sk 35 ?_;refine HH.sk 36 ?_;refine HH.sk 37 ?_;refine HH.sk 38 ?_;refine HH.tk 39 ?_;have HBY:=(hHeld.1).out;replace HT:=ze (yb.below HT.out HBY);replace HW:=eb_ HW HBY;clear HBY hHeld;refine HH.done (by kernel_rfl) ?_;simp only [List.drop_succ_cons,List.drop_zero];clear t8 o1 a0 a1 a2 HA aL tL hgo hoc;go_wp2_with fail;go_roundw
          case rel=>exact ⟨k+1,n+1,by omega,(ze (by have:=HKN.out;omega)),by go_num,(by rw [HEN.out,HKN.out]),HT,HW⟩
          case measure=>simp [intOf];omega
        . have d3:((b:Int) == 0)=false:=by rw [beq_eq_false_iff_ne];omega
          have o2:=hoc (b - 1) (by omega);have hb1:((b:Int) - 1).toNat=b - 1:=by omega
          have hb2:(0:Int)<=(b:Int) - 1:=by omega
          have hb5:(1:Int)<=(b:Int):=by omega
          have hwb:IntKind.i64.wrap ((b:Int) - 1)=(b:Int) - 1:=by rw [IntKind.wrap_i64];omega
          have hb3:(b:Int) - 1<((L - 1:Nat):Int):=by omega
          by_cases h4:T.other n<T.other (b - 1)
          . have d4:decide ((T.other n:Int)<(T.other (b - 1):Int))=true:=by rw [decide_eq_true_iff];omega
            have d5:decide (T.other n<T.other (b - 1))=true:=decide_eq_true h4;have HEN:Hid (T.enter m but (n+1)=n+1):=T.enter_yes h1 h2 (.inr (by rw [HBE.out];exact h4));clear h1 h2 h3 hcp
            go_upto_region 6 with fail
            skip
            refine zr (S:=fun w' =>Hid (Below wr.heap.size wr w')/\w'.cell? ⟨F.gt,8,none⟩=some (.slice (some ⟨go,0,none⟩) (L - 1) co)/\w'.cell? ⟨go,k - 1,none⟩=some (.int .i64 (T.other n:Nat))/\w'.cell? ⟨F.g m,k*3,none⟩=some (.int .i64 ax)/\w'.cell? ⟨F.g m,k*3+1,none⟩=some (.slice aA an ac)/\w'.cell? ⟨F.g m,k*3+2,none⟩=some (.bool ag)/\w'.cell? ⟨go,b - 1,none⟩=some (.int .i64 (T.other (b - 1):Nat))) 11 29 40 rfl (by kernel_rfl) (by kernel_rfl) (by kernel_rfl) rfl (zm (zv wr) (fun hB=>⟨zh hB tL t8,zh hB hgo o1,zh hB aL a0,zh hB aL a1,zh hB aL a2,zh hB hgo o2⟩)) ?_ (fun hHeld=>?_)
            . intro _ _ _ _ _ h9;exact h9
            simp only [List.take_succ_cons,List.take_zero]
            iterate 11 refine zW ?_
            refine zM ?_;refine HH.tk 11 ?_;refine HH.tk 12 ?_;refine HH.tk 13 ?_;refine HH.tk 14 ?_;refine HH.rd 15 (fun K hK=>?_);rw [if_pos (by rfl)]
            go_simp
            go_at_call 108;refine (sign1 _ (HA.out.below hHeld.1.out)).mono ?_;rintro e w1 ⟨rfl,hb1⟩;have hH0:=hHeld;clear hHeld;refine hK.out _ _ (zm (zt hb1 hH0.1) (fun hB=>⟨zh hB tL t8,zh hB hgo o1,zh hB aL a0,zh hB aL a1,zh hB aL a2,zh hB hgo o2⟩)) (fun hHeld=>?_);clear hH0 hK K
            try simp only [Act.put,List.setIfInBounds_toArray,List.set_cons_zero,List.set_cons_succ]
            clear hb1;refine HH.tk 16 ?_;refine HH.tk 17 ?_;refine HH.tk 18 ?_;refine HH.tk 19 ?_;refine HH.tk 20 ?_;refine HH.tk 21 ?_;refine HH.tk 22 ?_;refine HH.tk 23 ?_;refine HH.tk 24 ?_;refine HH.tk 25 ?_;refine HH.tk 26 ?_;refine HH.tk 27 ?_;refine HH.tk 28 ?_;refine HH.tk 29 ?_;refine HH.tk 30 ?_;refine HH.tk 31 ?_;refine HH.tk 32 ?_;refine HH.tk 33 ?_;refine HH.tk 34 ?_;refine HH.tk 35 ?_;refine HH.tk 36 ?_;refine HH.tk 37 ?_;refine HH.tk 38 ?_;refine HH.tk 39 ?_;have HBY:=(hHeld.1).out;replace HT:=ze (yb.below HT.out HBY);replace HW:=eb_ HW HBY;clear HBY hHeld;refine HH.done (by kernel_rfl) ?_;simp only [List.drop_succ_cons,List.drop_zero];clear t8 o1 a0 a1 a2 HA aL tL hgo hoc;go_wp2_with fail;go_roundw
            case rel=>exact ⟨k+1,n+1,by omega,(ze (by have:=HKN.out;omega)),by go_num,(by rw [HEN.out,HKN.out]),HT,HW⟩
            case measure=>simp [intOf];omega
          . have d4:decide ((T.other n:Int)<(T.other (b - 1):Int))=false:=by rw [decide_eq_false_iff_not];omega
            have d5:decide (T.other n<T.other (b - 1))=false:=decide_eq_false h4
            have HEN:Hid (T.enter m but (n+1)=b):=(T.enter_no fun h=>by
             rcases h.2.2 with h5 | h5
             . exact h3 (HBE.out.symm.trans h5)
             . rw [HBE.out] at h5;exact h4 h5).trans HBE.out
            clear h1 h2 h3 hcp
            go_upto_region 6 with fail
            skip
            refine zr (S:=fun w' =>Hid (Below wr.heap.size wr w')/\w'.cell? ⟨F.gt,8,none⟩=some (.slice (some ⟨go,0,none⟩) (L - 1) co)/\w'.cell? ⟨go,k - 1,none⟩=some (.int .i64 (T.other n:Nat))/\w'.cell? ⟨F.g m,k*3,none⟩=some (.int .i64 ax)/\w'.cell? ⟨F.g m,k*3+1,none⟩=some (.slice aA an ac)/\w'.cell? ⟨F.g m,k*3+2,none⟩=some (.bool ag)/\w'.cell? ⟨go,b - 1,none⟩=some (.int .i64 (T.other (b - 1):Nat))) 11 29 40 rfl (by kernel_rfl) (by kernel_rfl) (by kernel_rfl) rfl (zm (zv wr) (fun hB=>⟨zh hB tL t8,zh hB hgo o1,zh hB aL a0,zh hB aL a1,zh hB aL a2,zh hB hgo o2⟩)) ?_ (fun hHeld=>?_)
            . intro _ _ _ _ _ h9;exact h9
            simp only [List.take_succ_cons,List.take_zero]
            iterate 11 refine zW ?_
            refine zM ?_;refine HH.tk 11 ?_;refine HH.tk 12 ?_;refine HH.tk 13 ?_;refine HH.tk 14 ?_;refine HH.rd 15 (fun K hK=>?_);rw [if_pos (by rfl)]
            go_simp
            go_at_call 108;refine (sign1 _ (HA.out.below hHeld.1.out)).mono ?_;rintro e w1 ⟨rfl,hb1⟩;have hH0:=hHeld;clear hHeld;refine hK.out _ _ (zm (zt hb1 hH0.1) (fun hB=>⟨zh hB tL t8,zh hB hgo o1,zh hB aL a0,zh hB aL a1,zh hB aL a2,zh hB hgo o2⟩)) (fun hHeld=>?_);clear hH0 hK K
            try simp only [Act.put,List.setIfInBounds_toArray,List.set_cons_zero,List.set_cons_succ]
            clear hb1;refine HH.tk 16 ?_;refine HH.tk 17 ?_;refine HH.tk 18 ?_;refine HH.tk 19 ?_;refine HH.tk 20 ?_;refine HH.tk 21 ?_;refine HH.tk 22 ?_;refine HH.tk 23 ?_;refine HH.tk 24 ?_;refine HH.tk 25 ?_;refine HH.tk 26 ?_;refine HH.tk 27 ?_;refine HH.tk 28 ?_;refine HH.tk 29 ?_;refine HH.tk 30 ?_;refine HH.tk 31 ?_;refine HH.tk 32 ?_;refine HH.tk 33 ?_;refine HH.tk 34 ?_;refine HH.tk 35 ?_;refine HH.tk 36 ?_;refine HH.tk 37 ?_;refine HH.tk 38 ?_;refine HH.tk 39 ?_;have HBY:=(hHeld.1).out;replace HT:=ze (yb.below HT.out HBY);replace HW:=eb_ HW HBY;clear HBY hHeld;refine HH.done (by kernel_rfl) ?_;simp only [List.drop_succ_cons,List.drop_zero];clear t8 o1 a0 a1 a2 HA aL tL hgo hoc;go_wp2_with fail;go_roundw
            case rel=>exact ⟨k+1,n+1,by omega,(ze (by have:=HKN.out;omega)),by go_num,(by rw [HEN.out]),HT,HW⟩
            case measure=>simp [intOf];omega
      . have d2:decide (sg>0)=false:=by rw [decide_eq_false_iff_not];exact fun h=>h2 (hcp.1 h)
        have HEN:Hid (T.enter m but (n+1)=b):=(T.enter_no fun h=>h2 h.2.1).trans HBE.out;clear h1 h2 hcp
        go_upto_region 6 with fail
        skip
        refine zr (S:=fun w' =>Hid (Below wr.heap.size wr w')/\w'.cell? ⟨F.gt,8,none⟩=some (.slice (some ⟨go,0,none⟩) (L - 1) co)/\w'.cell? ⟨go,k - 1,none⟩=some (.int .i64 (T.other n:Nat))/\w'.cell? ⟨F.g m,k*3,none⟩=some (.int .i64 ax)/\w'.cell? ⟨F.g m,k*3+1,none⟩=some (.slice aA an ac)/\w'.cell? ⟨F.g m,k*3+2,none⟩=some (.bool ag)) 11 29 40 rfl (by kernel_rfl) (by kernel_rfl) (by kernel_rfl) rfl (zm (zv wr) (fun hB=>⟨zh hB tL t8,zh hB hgo o1,zh hB aL a0,zh hB aL a1,zh hB aL a2⟩)) ?_ (fun hHeld=>?_)
        . intro _ _ _ _ _ h9;exact h9
        simp only [List.take_succ_cons,List.take_zero]
        iterate 11 refine zW ?_
        refine zM ?_;refine HH.tk 11 ?_;refine HH.tk 12 ?_;refine HH.tk 13 ?_;refine HH.tk 14 ?_;refine HH.rd 15 (fun K hK=>?_);rw [if_pos (by rfl)]
        go_simp
        go_at_call 108;refine (sign1 _ (HA.out.below hHeld.1.out)).mono ?_;rintro e w1 ⟨rfl,hb1⟩;have hH0:=hHeld;clear hHeld;refine hK.out _ _ (zm (zt hb1 hH0.1) (fun hB=>⟨zh hB tL t8,zh hB hgo o1,zh hB aL a0,zh hB aL a1,zh hB aL a2⟩)) (fun hHeld=>?_);clear hH0 hK K
        try simp only [Act.put,List.setIfInBounds_toArray,List.set_cons_zero,List.set_cons_succ]
        clear hb1;refine HH.tk 16 ?_;refine HH.tk 17 ?_;refine HH.tk 18 ?_;refine HH.sk 19 ?_;refine HH.sk 20 ?_;refine HH.sk 21 ?_;refine HH.sk 22 ?_;refine HH.sk 23 ?_;refine HH.sk 24 ?_;refine HH.sk 25 ?_;refine HH.sk 26 ?_;refine HH.sk 27 ?_;refine HH.sk 28 ?_;refine HH.sk 29 ?_;refine HH.sk 30 ?_;refine HH.sk 31 ?_;refine HH.sk 32 ?_;refine HH.sk 33 ?_;refine HH.sk 34 ?_;refine HH.sk 35 ?_;refine HH.sk 36 ?_;refine HH.sk 37 ?_;refine HH.sk 38 ?_;refine HH.sk 39 ?_;have HBY:=(hHeld.1).out;replace HT:=ze (yb.below HT.out HBY);replace HW:=eb_ HW HBY;clear HBY hHeld;refine HH.done (by kernel_rfl) ?_;simp only [List.drop_succ_cons,List.drop_zero];clear t8 o1 a0 a1 a2 HA aL tL hgo hoc;go_wp2_with fail;go_roundw
        case rel=>exact ⟨k+1,n+1,by omega,(ze (by have:=HKN.out;omega)),by go_num,(by rw [HEN.out]),HT,HW⟩
        case measure=>simp [intOf];omega
  . have hkn:=HKN.out
    have hki:¬ (k:Int)<(L:Int):=by omega
    obtain rfl:n=L - 1:=by omega
    clear hkn;go_wp2_with fail;go_ret;exact ⟨by go_num,HW.out⟩
end Go.Proofs.YtkmcmmcencdcpaaGreatDoor
