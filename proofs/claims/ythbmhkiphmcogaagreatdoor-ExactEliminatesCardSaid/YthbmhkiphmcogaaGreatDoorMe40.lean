/- Parts of the proof. -/
import Derived.Test.YthbmhkiphmcogaaGreatDoorMe28
import Derived.Test.YthbmhkiphmcogaaGreatDoorMe38
import Derived.Test.YthbmhkiphmcogaaGreatDoorMe39
set_option linter.all false
namespace Go.Proofs.YthbmhkiphmcogaaGreatDoor
open Proofs.Tryz Go.RowKit
theorem V8:dec 1=[49]:=by simp [dec,digs];rfl
theorem zpq:dec 2=[50]:=by simp [dec,digs];rfl
theorem zn6:dec 3=[51]:=by simp [dec,digs];rfl
theorem zwu:dec 5=[53]:=by simp [dec,digs];rfl
theorem zvr:dec 6=[54]:=by simp [dec,digs];rfl
theorem rd {l:List UInt8} {q:Rat} (h:zw q=l) (h1:(dec q.num.natAbs).length<=50000) (h2:(dec q.den).length<=50000):zp l=some q:=by rw [<- h];exact XK ⟨h1,h2⟩
theorem rd0:zp [48]=some 0:=rd (by show (if (0:Int)<0 then [45] else []) ++ dec 0 ++ (if (1:Nat)=1 then [] else _)=_;rw [vO];rfl) (by show (dec 0).length<=_;rw [vO];decide) (by show (dec 1).length<=_;rw [V8];decide)
theorem rd1:zp [49]=some 1:=rd (by show (if (1:Int)<0 then [45] else []) ++ dec 1 ++ (if (1:Nat)=1 then [] else _)=_;rw [V8];rfl) (by show (dec 1).length<=_;rw [V8];decide) (by show (dec 1).length<=_;rw [V8];decide)
theorem rd2:zp [50]=some 2:=rd (by show (if (2:Int)<0 then [45] else []) ++ dec 2 ++ (if (1:Nat)=1 then [] else _)=_;rw [zpq];rfl) (by show (dec 2).length<=_;rw [zpq];decide) (by show (dec 1).length<=_;rw [V8];decide)
theorem rd3:zp [51]=some 3:=rd (by show (if (3:Int)<0 then [45] else []) ++ dec 3 ++ (if (1:Nat)=1 then [] else _)=_;rw [zn6];rfl) (by show (dec 3).length<=_;rw [zn6];decide) (by show (dec 1).length<=_;rw [V8];decide)
theorem rdm:zp [45,49]=some (-1):=rd (by show (if (-1:Int)<0 then [45] else []) ++ dec 1 ++ (if (1:Nat)=1 then [] else _)=_;rw [V8];rfl) (by show (dec 1).length<=_;rw [V8];decide) (by show (dec 1).length<=_;rw [V8];decide)
theorem zx1:zw 6=[54]:=by show (if (6:Int)<0 then [45] else []) ++ dec 6 ++ (if (1:Nat)=1 then [] else _)=_;rw [zvr];rfl
def qh:Rat:=mkRat 1 2
def qt:Rat:=mkRat 1 3
theorem rdh:zp [49,47,50]=some qh:=rd (by show (if (1:Int)<0 then [45] else []) ++ dec 1 ++ (if (2:Nat)=1 then [] else 47 :: dec 2)=_;rw [V8,zpq];rfl) (by show (dec 1).length<=_;rw [V8];decide) (by show (dec 2).length<=_;rw [zpq];decide)
theorem rdt:zp [49,47,51]=some qt:=rd (by show (if (1:Int)<0 then [45] else []) ++ dec 1 ++ (if (3:Nat)=1 then [] else 47 :: dec 3)=_;rw [V8,zn6];rfl) (by show (dec 1).length<=_;rw [V8];decide) (by show (dec 3).length<=_;rw [zn6];decide)
theorem zwx:op2 (· + ·) [49,47,50] [49,47,51]=([53,47,54],0):=by
 unfold op2
 rw [rdh,rdt]
 have e:qh+qt=mkRat 5 6:=by decide+kernel
 show zaq (qh+qt)=_
 rw [e]
 unfold zaq
 rw [if_pos (by
  show (dec 5).length<=_/\(dec 6).length<=_
  rw [zwu,zvr]
  decide)]
 show ((if (5:Int)<0 then [45] else []) ++ dec 5 ++ (if (6:Nat)=1 then [] else 47 :: dec 6),(0:Int))=_
 rw [zwu,zvr]
 rfl
def ztf:List UInt8:=[49,32,120,32,60,61,32,51,10,45,49,32,120,32,60,61,32,48,10]
def zqs:List (List UInt8):=[[49,32,120,32,60,61,32,51],[45,49,32,120,32,60,61,32,48]]
def Za:List zQ:=[⟨[⟨[120],[49]⟩],[51]⟩,⟨[⟨[120],[45,49]⟩],[48]⟩]
def xE:List zR:=[⟨[120],[50]⟩]
theorem zaw {q:Rat} (h1:dec q.num.natAbs=[49]\/dec q.num.natAbs=[48]\/dec q.num.natAbs=[50]\/dec q.num.natAbs=[51]) (h2:q.den=1):yo 12 q:=by
 refine ⟨?_,by rw [h2,V8];decide⟩
 rcases h1 with h | h | h | h<;>(rw [h];decide)
theorem one {p:Nat->Prop} (h:p 0):∀ i,i<1->p i:=by
 intro i hi
 have e:i=0:=by omega
 subst e
 exact h
theorem zua:zte ztf zqs Za:=by
 refine ⟨by decide,rfl,fun i hi=>?_,by decide,by decide,by decide⟩
 have hi:i<2:=hi
 rcases (show i=0\/i=1 by omega) with rfl | rfl
 . exact ⟨by decide,by decide,one (by decide),one (by decide),by decide,by decide,one (by show (zp [49]).isSome=true;rw [rd1];rfl),by show (zp [51]).isSome=true;rw [rd3];rfl,by decide,
    fun x hx=>by obtain rfl:=List.mem_singleton.1 hx;exact ⟨by unfold zN;decide,by unfold zN;decide⟩,by unfold zN;decide⟩
 . exact ⟨by decide,by decide,one (by decide),one (by decide),by decide,by decide,one (by show (zp [45,49]).isSome=true;rw [rdm];rfl),by show (zp [48]).isSome=true;rw [rd0];rfl,by decide,
    fun x hx=>by obtain rfl:=List.mem_singleton.1 hx;exact ⟨by unfold zN;decide,by unfold zN;decide⟩,by unfold zN;decide⟩
theorem zhw {f:Nat->Int} (h:f 0=0):vY 1 f=0:=by
 apply Zf.2
 intro k b
 have e:k=0:=by omega
 subst e
 exact h
theorem zjn {l:List UInt8} {q:Rat} (h:zp l=some q) (h0:q≠0) (hs:yo 12 q):xy l=0:=by unfold xy;rw [h];simp only;rw [if_neg h0,if_pos hs]
theorem zld {l:List UInt8} {q:Rat} (h:zp l=some q) (hs:yo 12 q):yG l=0:=by unfold yG;rw [h];simp only;rw [if_pos hs]
theorem zps {c:List UInt8} (h:xy c=0):yp [⟨[120],c⟩]=0:=by
 unfold yp
 refine zhw ?_
 unfold yC
 show (if vQ [120]=false then _ else if xy c≠0 then _ else yS [120] [120] (decide (0=0)))=0
 rw [if_neg (by decide),if_neg (by rw [h];decide)]
 rfl
theorem sh1:yo 12 1:=zaw (.inl (by show dec 1=_;exact V8)) rfl
theorem shm:yo 12 (-1):=zaw (.inl (by show dec 1=_;exact V8)) rfl
theorem sh0:yo 12 0:=zaw (.inr (.inl (by show dec 0=_;exact vO))) rfl
theorem sh2:yo 12 2:=zaw (.inr (.inr (.inl (by show dec 2=_;exact zpq)))) rfl
theorem sh3:yo 12 3:=zaw (.inr (.inr (.inr (by show dec 3=_;exact zn6)))) rfl
theorem ztg {c d:List UInt8} (h:xy c=0) (k:yG d=0):xa ⟨[⟨[120],c⟩],d⟩=0:=by
 unfold xa
 rw [if_neg (by rw [zps h];decide)]
 exact k
theorem zo6:VM Za [120]:=by
 refine ⟨fun r hr=>?_,by decide,fun r hr t ht=>?_,⟨_,List.mem_cons_self ..,by decide⟩,by decide⟩
 . simp [Za] at hr
   rcases hr with rfl | rfl
   . exact ztg (zjn rd1 (by decide) sh1) (zld rd3 sh3)
   . exact ztg (zjn rdm (by decide) shm) (zld rd0 sh0)
 simp [Za] at hr
 rcases hr with rfl | rfl
 all_goals
  simp at ht;subst ht
  rfl
theorem zu6:zjb xE [120]:=⟨zps (zjn rd2 (by decide) sh2),fun t ht=>by simp [xE] at ht;subst ht;rfl⟩
theorem q0_:qOf [48]=0:=by unfold qOf;rw [rd0];rfl
theorem q1_:qOf [49]=1:=by unfold qOf;rw [rd1];rfl
theorem q2_:qOf [50]=2:=by unfold qOf;rw [rd2];rfl
theorem q3_:qOf [51]=3:=by unfold qOf;rw [rd3];rfl
theorem qm_:qOf [45,49]= -1:=by unfold qOf;rw [rdm];rfl
theorem YO {z:Int} (h:z.natAbs<=100):Fit z:=by unfold Fit;have:=Z2 (d:=z.natAbs) (by omega);omega
theorem ZV {M:Nat} {q:Rat} (h:q.num.natAbs<=100) (h2:q.den<=100) (hM:1<=M):Z9 M q:=by
 have b:=Z2 (d:=q.num.natAbs) (by omega)
 have e:=Z2 (d:=(q.den:Int).natAbs) (by omega)
 exact ⟨by omega,by omega⟩
theorem zac {d:Int} {c:List UInt8} {q:Rat} (hd:d=1) (hq:qOf c=q) (h:q.den=1):ZN d [⟨[120],c⟩] 1=1:=by
 show d*(Rat.divInt ((qOf c).den:Int) d).num=1
 rw [hq,h,hd]
 decide+kernel
theorem zgk {b c:List UInt8} {p q:Rat} (hb:zp b=some p) (hc:zp c=some q) (h1:p.den=1) (h2:q.den=1) (h3:p.num.natAbs<=100) (h4:q.num.natAbs<=100):zgo b [⟨[120],c⟩]:=by
 have l:qOf b=p:=by unfold qOf;rw [hb];rfl
 have j:qOf c=q:=by unfold qOf;rw [hc];rfl
 have hd:((qOf b).den:Int)=1:=by rw [l,h1];rfl
 refine ⟨by rw [hb];rfl,by rw [l];exact ZV h3 (by omega) (by omega),fun t ht=>?_,fun n hn=>?_,fun n hn=>?_⟩
 . rw [List.mem_singleton] at ht
   subst ht;exact ⟨by show (zp c).isSome=true;rw [hc];rfl,by show Z9 _ (qOf c);rw [j];exact ZV h4 (by omega) (by omega)⟩
 . have e:n=0:=by simp at hn;omega
   subst e
   show len 4294967296 (Rat.divInt ((qOf c).den:Int) ((qOf b).den:Int)).num.natAbs<=_
   rw [j,h2,hd];have:(Rat.divInt ((1:Nat):Int) 1).num.natAbs=1:=by decide+kernel
   rw [this];have:=Z2 (d:=1) (by omega)
   omega
 . have:n=0\/n=1:=by simp at hn;omega
   rcases this with rfl | rfl
   . show Fit ((qOf b).den:Int)/\((qOf b).den:Int)≠0
     rw [hd];exact ⟨YO (by decide),by decide⟩
   . rw [zac hd j h2]
     exact ⟨YO (by decide),by decide⟩
theorem zkc:ziq [[120]] [120]:=⟨by decide,fun i h h1=>absurd h1 (by
 have e:[[120]].idxOf ([120]:List UInt8)=0:=by decide
 rw [e];omega),fun i h h1=>by
 have e:i=0:=by simp at h;omega
 subst e
 have b:¬ (([120]:List UInt8)< [120]):=by decide
 exact b⟩
theorem sc0:xW ⟨[⟨[120],[49]⟩],[51]⟩=1:=by
 show ZN ((qOf [51]).den:Int) [⟨[120],[49]⟩] 1=1
 exact zac (by rw [q3_];rfl) q1_ rfl
theorem sc1:xW ⟨[⟨[120],[45,49]⟩],[48]⟩=1:=by
 show ZN ((qOf [48]).den:Int) [⟨[120],[45,49]⟩] 1=1
 exact zac (by rw [q0_];rfl) qm_ rfl
theorem sg_:vH xE=1:=by
 show ZN ((qOf [48]).den:Int) [⟨[120],[50]⟩] 1=1
 exact zac (by rw [q0_];rfl) q2_ rfl
def exC:Nat->Nat->Int
 | 0=>fun k=>if k=3 then 1 else if k=1 then -1 else if k=2 then 1 else if k=0 then 3 else 0
 | 1=>fun k=>if k=3 then 1 else if k=1 then 1 else if k=2 then -1 else if k=0 then 0 else 0
 | _=>fun _=>0
def exG:Nat->Int:=fun k=>(0+if (k:Int)=1 then 2 else 0)+if (k:Int)=2 then -2 else 0
def exT:yE:=⟨1,exC,fun i=>2*1+i,fun k=>if k<2*1 then k else 2*1+2⟩
def exA:yE:=⟨1,fun i k=>if i=2 then exG k else exC i k,fun i=>2*1+i,fun k=>if k<2*1 then k else 2*1+2⟩
def exU:yE:=exA.pivot 0 1
theorem zyj {c:List UInt8}:zb8 [[120]] [⟨[120],c⟩] 0=0:=by unfold zb8;rfl
theorem ztm {b c:List UInt8} {p q:Rat} {v z:Int} (hs:xW ⟨[⟨[120],c⟩],b⟩=1) (hb:qOf b=p) (hc:qOf c=q) (h1:Z3 p 1=z) (h2:Z3 q 1=v) (k:Nat):
 zr9 [[120]] ⟨[⟨[120],c⟩],b⟩ k=if k=3 then 1 else if k=1 then -v else if k=2 then v else if k=0 then z else 0:=by
 unfold zr9
 rw [hs]
 show (if k=3 then 1 else (if k=1+2*zb8 [[120]] [⟨[120],c⟩] 0 then -(Z3 (qOf c) 1) else if k=2+2*zb8 [[120]] [⟨[120],c⟩] 0 then Z3 (qOf c) 1 else if k=0 then Z3 (qOf b) 1 else 0))=_
 rw [zyj,hb,hc,h1,h2]
theorem zsx (i k:Nat):zt4 Za [[120]] i k=exC i k:=by
 unfold zt4
 match i with
 | 0=>
   rw [if_pos (by decide)];exact ztm sc0 q3_ q1_ (z:=3) (v:=1) (by decide+kernel) (by decide+kernel) k
 | 1=>
   rw [if_pos (by decide)];exact ztm sc1 q0_ qm_ (z:=0) (v:= -1) (by decide+kernel) (by decide+kernel) k
 | i+2=>
   rw [if_neg (by show ¬ i+2<2;omega)]
   rfl
theorem zgq:zq7 Za [[120]]=exT:=by
 unfold zq7 exT
 congr 1
 funext i k
 exact zsx i k
theorem co_:Va (vH xE) xE 0=2:=by
 unfold Va
 rw [sg_]
 show Z3 (qOf [50]) 1=2
 rw [q2_]
 decide+kernel
theorem cnt0 (k:Nat):XZ exT 2 4 ((2*0:Nat):Int) 2 k=if (k:Int)=1 then 2 else 0:=by
 unfold XZ
 have e:vG exT.basic ((2*0:Nat):Int) 2=none:=by decide
 have b:vG exT.other ((2*0:Nat):Int) (4 - 1)=some 0:=by decide
 rw [e,b]
 rfl
theorem cnt1 (k:Nat):XZ exT 2 4 ((2*0+1:Nat):Int) (-2) k=if (k:Int)=2 then -2 else 0:=by
 unfold XZ
 have e:vG exT.basic ((2*0+1:Nat):Int) 2=none:=by decide
 have b:vG exT.other ((2*0+1:Nat):Int) (4 - 1)=some 1:=by decide
 rw [e,b]
 rfl
theorem zsf (k:Nat):zcf exT [[120]] 2 4 (vH xE) xE 1 k=exG k:=by
 show 0+XZ exT 2 4 ((2*zb8 [[120]] xE 0:Nat):Int) (Va (vH xE) xE 0) k+XZ exT 2 4 ((2*zb8 [[120]] xE 0+1:Nat):Int) (-(Va (vH xE) xE 0)) k=exG k
 rw [co_,show zb8 [[120]] xE 0=0 from zyj,cnt0,cnt1]
 rfl
theorem zpn:zvf Za [[120]] xE=exA:=by
 unfold zvf
 rw [zgq]
 unfold yE.aimed exA
 congr 1
 funext i k
 show (if i=2 then zcf exT [[120]] 2 4 (vH xE) xE 1 k else exC i k)=_
 rw [zsf]
theorem zgh {T:yE} (h1:0<T.den) (h2:T.den.natAbs<=100) (h3:∀ i,i<3->∀ k,k<4->(T.cell i k).natAbs<=100):T.Fits 2 4:=⟨h1,YO h2,fun i k hi hk=>YO (h3 i (by omega) k hk)⟩
theorem zwb:zu4 exT [[120]] 2 4 xE:=by
 refine ⟨zgk rd0 rd2 rfl rfl (by decide) (by decide),fun t ht=>?_,fun t ht=>?_,fun t k ht hk=>?_,fun t k ht hk=>?_,fun u hu h=>?_⟩
 . simp [xE] at ht
   subst ht;exact zkc
 . have e:t=0:=by simp [xE] at ht;omega
   subst e;rw [co_];exact YO (by decide)
 . have e:t=0:=by simp [xE] at ht;omega
   subst e
   show len 4294967296 (0:Int).natAbs<=_
   rw [show (0:Int).natAbs=0 from rfl,Vz]
   omega
 . have e:t=0:=by simp [xE] at ht;omega
   subst e
   show len 4294967296 (0+XZ exT 2 4 ((2*zb8 [[120]] xE 0:Nat):Int) (Va (vH xE) xE 0) k).natAbs<=_
   rw [co_,show zb8 [[120]] xE 0=0 from zyj,cnt0];have:(0+if (k:Int)=1 then (2:Int) else 0).natAbs<=2:=by split<;>decide
   have:=Z2 (d:=(0+if (k:Int)=1 then (2:Int) else 0).natAbs) (by omega)
   omega
 . have:u=0\/u=1:=by simp at hu;omega
   rcases this with rfl | rfl<;>decide
theorem zwo:Vm 2 4 4 (4:Int) 1 exA exU 0:=by
 refine .step exA exU 1 0 0 0 (by decide) (by decide) (by decide) (zgh (by decide) (by decide) (by decide)) ?_
 exact .top exU (by decide)
theorem zx6:zty Za [[120]] xE 1 exU:=by
 refine ⟨fun r hr=>?_,by decide,by decide,by decide,fun i hi=>?_,?_,?_,?_,?_,?_,fun i hi=>?_,fun i j hi hj=>?_,fun i hi=>?_,fun k hk=>?_,fun i hi=>?_⟩
 . simp [Za] at hr
   rcases hr with rfl | rfl
   . exact ⟨zgk rd3 rd1 rfl rfl (by decide) (by decide),fun t ht=>by simp at ht;subst ht;exact zkc⟩
   . exact ⟨zgk rd0 rdm rfl rfl (by decide) (by decide),fun t ht=>by simp at ht;subst ht;exact zkc⟩
 . rw [zgq]
   have:i=0\/i=1:=by simp [Za] at hi;omega
   rcases this with rfl | rfl<;>decide
 . rw [zgq];exact zgh (by decide) (by decide) (by decide)
 . rw [zgq];exact zwb
 . rw [zpn];exact zgh (by decide) (by decide) (by decide)
 . rw [zpn];exact zwo
 . exact zgh (by decide) (by decide) (by decide)
 . have:i=0\/i=1:=by simp [Za] at hi;omega
   rcases this with rfl | rfl
   . exact .inr ⟨0,by decide,by decide⟩
   . exact .inl (by decide)
 . have e:j=0:=by simp at hj;omega
   subst e;have:i=0\/i=1\/i=2:=by simp [Za] at hi;omega
   have b:∀ i,i<3->(ze0 exU 1 i 0).num.natAbs<=100/\(ze0 exU 1 i 0).den<=100:=by decide+kernel
   have:=b i (by omega);exact ZV this.1 this.2 (by omega)
 . have b:∀ i,i<2->(Rat.divInt (exU.cell i 0) exU.den).num.natAbs<=100/\(Rat.divInt (exU.cell i 0) exU.den).den<=100:=by decide+kernel
   have:=b i hi;exact ZV this.1 this.2 (by omega)
 . have b:∀ k,k<3->exU.other k<=1000000:=by decide
   exact b k hk
 . have:i=0\/i=1:=by simp [Za] at hi;omega
   rcases this with rfl | rfl
   . show Fit (xW ⟨[⟨[120],[49]⟩],[51]⟩);rw [sc0];exact YO (by decide)
   . show Fit (xW ⟨[⟨[120],[45,49]⟩],[48]⟩);rw [sc1];exact YO (by decide)
theorem zsp:Rat.divInt (exU.cell Za.length 0) (exU.den*vH xE)=6:=by
 rw [sg_]
 decide+kernel
theorem zsj:Z9 67108864 (ze0 exU 1 Za.length 0):=by
 have b:(ze0 exU 1 2 0).num.natAbs<=100/\(ze0 exU 1 2 0).den<=100:=by decide+kernel
 exact ZV b.1 b.2 (by omega)
theorem zml:∀ k,k<Za.length->Z9 67108864 (wtN exU 1 Za.length (znr Za) (vH xE) (2*1+1) k):=by
 intro k j
 have l:∀ i,i<2->znr Za i=1:=by
  intro i hi
  have:i=0\/i=1:=by omega
  rcases this with rfl | rfl
  . exact sc0
  . exact sc1
 have e:wtN exU 1 Za.length (znr Za) (vH xE) (2*1+1) k=wtN exU 1 2 (fun _=>1) 1 3 k:=by
  rw [sg_]
  have m:k<2:=j
  have b:=l k m
  unfold wtN wtN wtN wtN
  simp only [b]
  rfl
 rw [e]
 have b:∀ k,k<2->(wtN exU 1 2 (fun _=>1) 1 3 k).num.natAbs<=100/\(wtN exU 1 2 (fun _=>1) 1 3 k).den<=100:=by decide+kernel
 have:=b k j
 exact ZV this.1 this.2 (by omega)
end Go.Proofs.YthbmhkiphmcogaaGreatDoor
