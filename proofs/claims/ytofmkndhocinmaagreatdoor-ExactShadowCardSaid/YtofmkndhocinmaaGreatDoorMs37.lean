/- Parts of the proof. -/
import Derived.Test.YtofmkndhocinmaaGreatDoorMs28
import Derived.Test.YtofmkndhocinmaaGreatDoorMs36
set_option linter.all false
namespace Go.Proofs.YtofmkndhocinmaaGreatDoor
open Proofs.Tryz Go.RowKit
theorem Xy:dec 1=[49]:=by simp [dec,digs];rfl
theorem zl4:dec 2=[50]:=by simp [dec,digs];rfl
theorem zof:dec 3=[51]:=by simp [dec,digs];rfl
theorem ztx:dec 5=[53]:=by simp [dec,digs];rfl
theorem zs7:dec 6=[54]:=by simp [dec,digs];rfl
theorem rd {l:List UInt8} {q:Rat} (h:zu q=l) (h1:(dec q.num.natAbs).length<=50000) (h2:(dec q.den).length<=50000):zj l=some q:=by rw [<- h];exact yO ⟨h1,h2⟩
theorem rd0:zj [48]=some 0:=rd (by show (if (0:Int)<0 then [45] else []) ++ dec 0 ++ (if (1:Nat)=1 then [] else _)=_;rw [vt];rfl) (by show (dec 0).length<=_;rw [vt];decide) (by show (dec 1).length<=_;rw [Xy];decide)
theorem rd1:zj [49]=some 1:=rd (by show (if (1:Int)<0 then [45] else []) ++ dec 1 ++ (if (1:Nat)=1 then [] else _)=_;rw [Xy];rfl) (by show (dec 1).length<=_;rw [Xy];decide) (by show (dec 1).length<=_;rw [Xy];decide)
theorem rd2:zj [50]=some 2:=rd (by show (if (2:Int)<0 then [45] else []) ++ dec 2 ++ (if (1:Nat)=1 then [] else _)=_;rw [zl4];rfl) (by show (dec 2).length<=_;rw [zl4];decide) (by show (dec 1).length<=_;rw [Xy];decide)
theorem rd3:zj [51]=some 3:=rd (by show (if (3:Int)<0 then [45] else []) ++ dec 3 ++ (if (1:Nat)=1 then [] else _)=_;rw [zof];rfl) (by show (dec 3).length<=_;rw [zof];decide) (by show (dec 1).length<=_;rw [Xy];decide)
theorem rdm:zj [45,49]=some (-1):=rd (by show (if (-1:Int)<0 then [45] else []) ++ dec 1 ++ (if (1:Nat)=1 then [] else _)=_;rw [Xy];rfl) (by show (dec 1).length<=_;rw [Xy];decide) (by show (dec 1).length<=_;rw [Xy];decide)
theorem zvi:zu 6=[54]:=by show (if (6:Int)<0 then [45] else []) ++ dec 6 ++ (if (1:Nat)=1 then [] else _)=_;rw [zs7];rfl
def qh:Rat:=mkRat 1 2
def qt:Rat:=mkRat 1 3
theorem rdh:zj [49,47,50]=some qh:=rd (by show (if (1:Int)<0 then [45] else []) ++ dec 1 ++ (if (2:Nat)=1 then [] else 47 :: dec 2)=_;rw [Xy,zl4];rfl) (by show (dec 1).length<=_;rw [Xy];decide) (by show (dec 2).length<=_;rw [zl4];decide)
theorem rdt:zj [49,47,51]=some qt:=rd (by show (if (1:Int)<0 then [45] else []) ++ dec 1 ++ (if (3:Nat)=1 then [] else 47 :: dec 3)=_;rw [Xy,zof];rfl) (by show (dec 1).length<=_;rw [Xy];decide) (by show (dec 3).length<=_;rw [zof];decide)
theorem zu0:op2 (· + ·) [49,47,50] [49,47,51]=([53,47,54],0):=by
 unfold op2
 rw [rdh,rdt]
 have e:qh+qt=mkRat 5 6:=by decide+kernel
 show ZQ (qh+qt)=_
 rw [e]
 unfold ZQ
 rw [if_pos (by
  show (dec 5).length<=_/\(dec 6).length<=_
  rw [ztx,zs7]
  decide)]
 show ((if (5:Int)<0 then [45] else []) ++ dec 5 ++ (if (6:Nat)=1 then [] else 47 :: dec 6),(0:Int))=_
 rw [ztx,zs7]
 rfl
def zrb:List UInt8:=[49,32,120,32,60,61,32,51,10,45,49,32,120,32,60,61,32,48,10]
def zlo:List (List UInt8):=[[49,32,120,32,60,61,32,51],[45,49,32,120,32,60,61,32,48]]
def vp:List zF:=[⟨[⟨[120],[49]⟩],[51]⟩,⟨[⟨[120],[45,49]⟩],[48]⟩]
def xd:List zm:=[⟨[120],[50]⟩]
theorem Vd {q:Rat} (h1:dec q.num.natAbs=[49]\/dec q.num.natAbs=[48]\/dec q.num.natAbs=[50]\/dec q.num.natAbs=[51]) (h2:q.den=1):yC 12 q:=by
 refine ⟨?_,by rw [h2,Xy];decide⟩
 rcases h1 with h | h | h | h<;>(rw [h];decide)
theorem one {p:Nat->Prop} (h:p 0):∀ i,i<1->p i:=by
 intro i hi
 have e:i=0:=by omega
 subst e
 exact h
theorem zr2:zq2 zrb zlo vp:=by
 refine ⟨by decide,rfl,fun i hi=>?_,by decide,by decide,by decide⟩
 have hi:i<2:=hi
 rcases (show i=0\/i=1 by omega) with rfl | rfl
 . exact ⟨by decide,by decide,one (by decide),one (by decide),by decide,by decide,one (by show (zj [49]).isSome=true;rw [rd1];rfl),by show (zj [51]).isSome=true;rw [rd3];rfl,by decide,
    fun x hx=>by obtain rfl:=List.mem_singleton.1 hx;exact ⟨by unfold zB;decide,by unfold zB;decide⟩,by unfold zB;decide⟩
 . exact ⟨by decide,by decide,one (by decide),one (by decide),by decide,by decide,one (by show (zj [45,49]).isSome=true;rw [rdm];rfl),by show (zj [48]).isSome=true;rw [rd0];rfl,by decide,
    fun x hx=>by obtain rfl:=List.mem_singleton.1 hx;exact ⟨by unfold zB;decide,by unfold zB;decide⟩,by unfold zB;decide⟩
theorem ze5 {f:Nat->Int} (h:f 0=0):xq 1 f=0:=by
 apply ys.2
 intro k b
 have e:k=0:=by omega
 subst e
 exact h
theorem zgv {l:List UInt8} {q:Rat} (h:zj l=some q) (h0:q≠0) (hs:yC 12 q):xF l=0:=by unfold xF;rw [h];simp only;rw [if_neg h0,if_pos hs]
theorem zjo {l:List UInt8} {q:Rat} (h:zj l=some q) (hs:yC 12 q):xt l=0:=by unfold xt;rw [h];simp only;rw [if_pos hs]
theorem zlr {c:List UInt8} (h:xF c=0):ya [⟨[120],c⟩]=0:=by
 unfold ya
 refine ze5 ?_
 unfold xT
 show (if vr [120]=false then _ else if xF c≠0 then _ else yH [120] [120] (decide (0=0)))=0
 rw [if_neg (by decide),if_neg (by rw [h];decide)]
 rfl
theorem sh1:yC 12 1:=Vd (.inl (by show dec 1=_;exact Xy)) rfl
theorem shm:yC 12 (-1):=Vd (.inl (by show dec 1=_;exact Xy)) rfl
theorem sh0:yC 12 0:=Vd (.inr (.inl (by show dec 0=_;exact vt))) rfl
theorem sh2:yC 12 2:=Vd (.inr (.inr (.inl (by show dec 2=_;exact zl4)))) rfl
theorem sh3:yC 12 3:=Vd (.inr (.inr (.inr (by show dec 3=_;exact zof)))) rfl
theorem zq1 {c d:List UInt8} (h:xF c=0) (k:xt d=0):yN ⟨[⟨[120],c⟩],d⟩=0:=by
 unfold yN
 rw [if_neg (by rw [zlr h];decide)]
 exact k
theorem znf:XB vp [120]:=by
 refine ⟨fun r hr=>?_,by decide,fun r hr t ht=>?_,⟨_,uP ..,by decide⟩,by decide⟩
 . simp [vp] at hr
   rcases hr with rfl | rfl
   . exact zq1 (zgv rd1 (by decide) sh1) (zjo rd3 sh3)
   . exact zq1 (zgv rdm (by decide) shm) (zjo rd0 sh0)
 simp [vp] at hr
 rcases hr with rfl | rfl
 all_goals
  simp at ht;subst ht
  rfl
theorem zr3:zhg xd [120]:=⟨zlr (zgv rd2 (by decide) sh2),fun t ht=>by simp [xd] at ht;subst ht;rfl⟩
theorem q0_:qOf [48]=0:=by unfold qOf;rw [rd0];rfl
theorem q1_:qOf [49]=1:=by unfold qOf;rw [rd1];rfl
theorem q2_:qOf [50]=2:=by unfold qOf;rw [rd2];rfl
theorem q3_:qOf [51]=3:=by unfold qOf;rw [rd3];rfl
theorem qm_:qOf [45,49]= -1:=by unfold qOf;rw [rdm];rfl
theorem ZS {z:Int} (h:z.natAbs<=100):Fit z:=by unfold Fit;have:=vS (d:=z.natAbs) (by omega);omega
theorem Zu {M:Nat} {q:Rat} (h:q.num.natAbs<=100) (h2:q.den<=100) (hM:1<=M):xS M q:=by
 have b:=vS (d:=q.num.natAbs) (by omega)
 have e:=vS (d:=(q.den:Int).natAbs) (by omega)
 exact ⟨by omega,by omega⟩
theorem Vm {d:Int} {c:List UInt8} {q:Rat} (hd:d=1) (hq:qOf c=q) (h:q.den=1):Zs d [⟨[120],c⟩] 1=1:=by
 show d*(Rat.divInt ((qOf c).den:Int) d).num=1
 rw [hq,h,hd]
 decide+kernel
theorem zd5 {b c:List UInt8} {p q:Rat} (hb:zj b=some p) (hc:zj c=some q) (h1:p.den=1) (h2:q.den=1) (h3:p.num.natAbs<=100) (h4:q.num.natAbs<=100):zdv b [⟨[120],c⟩]:=by
 have l:qOf b=p:=by unfold qOf;rw [hb];rfl
 have j:qOf c=q:=by unfold qOf;rw [hc];rfl
 have hd:((qOf b).den:Int)=1:=by rw [l,h1];rfl
 refine ⟨by rw [hb];rfl,by rw [l];exact Zu h3 (by omega) (by omega),fun t ht=>?_,fun n hn=>?_,fun n hn=>?_⟩
 . rw [uM] at ht
   subst ht;exact ⟨by show (zj c).isSome=true;rw [hc];rfl,by show xS _ (qOf c);rw [j];exact Zu h4 (by omega) (by omega)⟩
 . have e:n=0:=by simp at hn;omega
   subst e
   show len 4294967296 (Rat.divInt ((qOf c).den:Int) ((qOf b).den:Int)).num.natAbs<=_
   rw [j,h2,hd];have:(Rat.divInt ((1:Nat):Int) 1).num.natAbs=1:=by decide+kernel
   rw [this];have:=vS (d:=1) (by omega)
   omega
 . have:n=0\/n=1:=by simp at hn;omega
   rcases this with rfl | rfl
   . show Fit ((qOf b).den:Int)/\((qOf b).den:Int)≠0
     rw [hd];exact ⟨ZS (by decide),by decide⟩
   . rw [Vm hd j h2]
     exact ⟨ZS (by decide),by decide⟩
theorem zhc:zgn [[120]] [120]:=⟨by decide,fun i h h1=>absurd h1 (by
 have e:[[120]].idxOf ([120]:List UInt8)=0:=by decide
 rw [e];omega),fun i h h1=>by
 have e:i=0:=by simp at h;omega
 subst e
 have b:¬ (([120]:List UInt8)< [120]):=by decide
 exact b⟩
theorem sc0:xz ⟨[⟨[120],[49]⟩],[51]⟩=1:=by
 show Zs ((qOf [51]).den:Int) [⟨[120],[49]⟩] 1=1
 exact Vm (by rw [q3_];rfl) q1_ rfl
theorem sc1:xz ⟨[⟨[120],[45,49]⟩],[48]⟩=1:=by
 show Zs ((qOf [48]).den:Int) [⟨[120],[45,49]⟩] 1=1
 exact Vm (by rw [q0_];rfl) qm_ rfl
theorem sg_:xV xd=1:=by
 show Zs ((qOf [48]).den:Int) [⟨[120],[50]⟩] 1=1
 exact Vm (by rw [q0_];rfl) q2_ rfl
def exC:Nat->Nat->Int
 | 0=>fun k=>if k=3 then 1 else if k=1 then -1 else if k=2 then 1 else if k=0 then 3 else 0
 | 1=>fun k=>if k=3 then 1 else if k=1 then 1 else if k=2 then -1 else if k=0 then 0 else 0
 | _=>fun _=>0
def exG:Nat->Int:=fun k=>(0+if (k:Int)=1 then 2 else 0)+if (k:Int)=2 then -2 else 0
def exT:y8:=⟨1,exC,fun i=>2*1+i,fun k=>if k<2*1 then k else 2*1+2⟩
def exA:y8:=⟨1,fun i k=>if i=2 then exG k else exC i k,fun i=>2*1+i,fun k=>if k<2*1 then k else 2*1+2⟩
def exU:y8:=exA.pivot 0 1
theorem zvh {c:List UInt8}:VJ [[120]] [⟨[120],c⟩] 0=0:=by unfold VJ;rfl
theorem zq7 {b c:List UInt8} {p q:Rat} {v z:Int} (hs:xz ⟨[⟨[120],c⟩],b⟩=1) (hb:qOf b=p) (hc:qOf c=q) (h1:vQ p 1=z) (h2:vQ q 1=v) (k:Nat):
 zph [[120]] ⟨[⟨[120],c⟩],b⟩ k=if k=3 then 1 else if k=1 then -v else if k=2 then v else if k=0 then z else 0:=by
 unfold zph
 rw [hs]
 show (if k=3 then 1 else (if k=1+2*VJ [[120]] [⟨[120],c⟩] 0 then -(vQ (qOf c) 1) else if k=2+2*VJ [[120]] [⟨[120],c⟩] 0 then vQ (qOf c) 1 else if k=0 then vQ (qOf b) 1 else 0))=_
 rw [zvh,hb,hc,h1,h2]
theorem zql (i k:Nat):zsw vp [[120]] i k=exC i k:=by
 unfold zsw
 match i with
 | 0=>
   rw [if_pos (by decide)];exact zq7 sc0 q3_ q1_ (z:=3) (v:=1) (by decide+kernel) (by decide+kernel) k
 | 1=>
   rw [if_pos (by decide)];exact zq7 sc1 q0_ qm_ (z:=0) (v:= -1) (by decide+kernel) (by decide+kernel) k
 | i+2=>
   rw [if_neg (by show ¬ i+2<2;omega)]
   rfl
theorem zdy:zon vp [[120]]=exT:=by
 unfold zon exT
 congr 1
 funext i k
 exact zql i k
theorem co_:YT (xV xd) xd 0=2:=by
 unfold YT
 rw [sg_]
 show vQ (qOf [50]) 1=2
 rw [q2_]
 decide+kernel
theorem cnt0 (k:Nat):YU exT 2 4 ((2*0:Nat):Int) 2 k=if (k:Int)=1 then 2 else 0:=by
 unfold YU
 have e:xW exT.basic ((2*0:Nat):Int) 2=none:=by decide
 have b:xW exT.other ((2*0:Nat):Int) (4 - 1)=some 0:=by decide
 rw [e,b]
 rfl
theorem cnt1 (k:Nat):YU exT 2 4 ((2*0+1:Nat):Int) (-2) k=if (k:Int)=2 then -2 else 0:=by
 unfold YU
 have e:xW exT.basic ((2*0+1:Nat):Int) 2=none:=by decide
 have b:xW exT.other ((2*0+1:Nat):Int) (4 - 1)=some 1:=by decide
 rw [e,b]
 rfl
theorem zpb (k:Nat):zad exT [[120]] 2 4 (xV xd) xd 1 k=exG k:=by
 show 0+YU exT 2 4 ((2*VJ [[120]] xd 0:Nat):Int) (YT (xV xd) xd 0) k+YU exT 2 4 ((2*VJ [[120]] xd 0+1:Nat):Int) (-(YT (xV xd) xd 0)) k=exG k
 rw [co_,show VJ [[120]] xd 0=0 from zvh,cnt0,cnt1]
 rfl
theorem znc:zs5 vp [[120]] xd=exA:=by
 unfold zs5
 rw [zdy]
 unfold y8.aimed exA
 congr 1
 funext i k
 show (if i=2 then zad exT [[120]] 2 4 (xV xd) xd 1 k else exC i k)=_
 rw [zpb]
theorem zd7 {T:y8} (h1:0<T.den) (h2:T.den.natAbs<=100) (h3:∀ i,i<3->∀ k,k<4->(T.cell i k).natAbs<=100):T.Fits 2 4:=⟨h1,ZS h2,fun i k hi hk=>ZS (h3 i (by omega) k hk)⟩
theorem zu1:zsf exT [[120]] 2 4 xd:=by
 refine ⟨zd5 rd0 rd2 rfl rfl (by decide) (by decide),fun t ht=>?_,fun t ht=>?_,fun t k ht hk=>?_,fun t k ht hk=>?_,fun u hu h=>?_⟩
 . simp [xd] at ht
   subst ht;exact zhc
 . have e:t=0:=by simp [xd] at ht;omega
   subst e;rw [co_];exact ZS (by decide)
 . have e:t=0:=by simp [xd] at ht;omega
   subst e
   show len 4294967296 (0:Int).natAbs<=_
   rw [show (0:Int).natAbs=0 from rfl,zqm]
   omega
 . have e:t=0:=by simp [xd] at ht;omega
   subst e
   show len 4294967296 (0+YU exT 2 4 ((2*VJ [[120]] xd 0:Nat):Int) (YT (xV xd) xd 0) k).natAbs<=_
   rw [co_,show VJ [[120]] xd 0=0 from zvh,cnt0];have:(0+if (k:Int)=1 then (2:Int) else 0).natAbs<=2:=by split<;>decide
   have:=vS (d:=(0+if (k:Int)=1 then (2:Int) else 0).natAbs) (by omega)
   omega
 . have:u=0\/u=1:=by simp at hu;omega
   rcases this with rfl | rfl<;>decide
theorem zu4:Xj 2 4 4 (4:Int) 1 exA exU 0:=by
 refine .step exA exU 1 0 0 0 (by decide) (by decide) (by decide) (zd7 (by decide) (by decide) (by decide)) ?_
 exact .top exU (by decide)
theorem zvg:zr7 vp [[120]] xd 1 exU:=by
 refine ⟨fun r hr=>?_,by decide,by decide,by decide,fun i hi=>?_,?_,?_,?_,?_,?_,fun i hi=>?_,fun i j hi hj=>?_,fun i hi=>?_,fun k hk=>?_,fun i hi=>?_⟩
 . simp [vp] at hr
   rcases hr with rfl | rfl
   . exact ⟨zd5 rd3 rd1 rfl rfl (by decide) (by decide),fun t ht=>by simp at ht;subst ht;exact zhc⟩
   . exact ⟨zd5 rd0 rdm rfl rfl (by decide) (by decide),fun t ht=>by simp at ht;subst ht;exact zhc⟩
 . rw [zdy]
   have:i=0\/i=1:=by simp [vp] at hi;omega
   rcases this with rfl | rfl<;>decide
 . rw [zdy];exact zd7 (by decide) (by decide) (by decide)
 . rw [zdy];exact zu1
 . rw [znc];exact zd7 (by decide) (by decide) (by decide)
 . rw [znc];exact zu4
 . exact zd7 (by decide) (by decide) (by decide)
 . have:i=0\/i=1:=by simp [vp] at hi;omega
   rcases this with rfl | rfl
   . exact .inr ⟨0,by decide,by decide⟩
   . exact .inl (by decide)
 . have e:j=0:=by simp at hj;omega
   subst e;have:i=0\/i=1\/i=2:=by simp [vp] at hi;omega
   have b:∀ i,i<3->(zc3 exU 1 i 0).num.natAbs<=100/\(zc3 exU 1 i 0).den<=100:=by decide+kernel
   have:=b i (by omega);exact Zu this.1 this.2 (by omega)
 . have b:∀ i,i<2->(Rat.divInt (exU.cell i 0) exU.den).num.natAbs<=100/\(Rat.divInt (exU.cell i 0) exU.den).den<=100:=by decide+kernel
   have:=b i hi;exact Zu this.1 this.2 (by omega)
 . have b:∀ k,k<3->exU.other k<=1000000:=by decide
   exact b k hk
 . have:i=0\/i=1:=by simp [vp] at hi;omega
   rcases this with rfl | rfl
   . show Fit (xz ⟨[⟨[120],[49]⟩],[51]⟩);rw [sc0];exact ZS (by decide)
   . show Fit (xz ⟨[⟨[120],[45,49]⟩],[48]⟩);rw [sc1];exact ZS (by decide)
theorem zpc:Rat.divInt (exU.cell vp.length 0) (exU.den*xV xd)=6:=by
 rw [sg_]
 decide+kernel
theorem zop:xS 67108864 (zc3 exU 1 vp.length 0):=by
 have b:(zc3 exU 1 2 0).num.natAbs<=100/\(zc3 exU 1 2 0).den<=100:=by decide+kernel
 exact Zu b.1 b.2 (by omega)
theorem zkb:∀ k,k<vp.length->xS 67108864 (wtN exU 1 vp.length (zlf vp) (xV xd) (2*1+1) k):=by
 intro k j
 have m:∀ i,i<2->zlf vp i=1:=by
  intro i hi
  have:i=0\/i=1:=by omega
  rcases this with rfl | rfl
  . exact sc0
  . exact sc1
 have e:wtN exU 1 vp.length (zlf vp) (xV xd) (2*1+1) k=wtN exU 1 2 (fun _=>1) 1 3 k:=by
  rw [sg_]
  have l:k<2:=j
  have b:=m k l
  unfold wtN wtN wtN wtN
  simp only [b]
  rfl
 rw [e]
 have b:∀ k,k<2->(wtN exU 1 2 (fun _=>1) 1 3 k).num.natAbs<=100/\(wtN exU 1 2 (fun _=>1) 1 3 k).den<=100:=by decide+kernel
 have:=b k j
 exact Zu this.1 this.2 (by omega)
end Go.Proofs.YtofmkndhocinmaaGreatDoor
