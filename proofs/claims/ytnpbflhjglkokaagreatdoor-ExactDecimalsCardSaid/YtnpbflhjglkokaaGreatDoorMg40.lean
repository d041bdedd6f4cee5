/- Parts of the proof: memory, numbers, walks of the functions that are called. -/
import Derived.Test.YtnpbflhjglkokaaGreatDoorMg30
import Derived.Test.YtnpbflhjglkokaaGreatDoorMg39
set_option linter.unusedVariables false
set_option linter.unusedSimpArgs false
namespace Go.Proofs.YtnpbflhjglkokaaGreatDoor
open Go.RowKit
theorem Y8:dec 1=[49]:=by simp [dec,digs];rfl
theorem ziv:dec 2=[50]:=by simp [dec,digs];rfl
theorem ziw:dec 3=[51]:=by simp [dec,digs];rfl
theorem zou:dec 5=[53]:=by simp [dec,digs];rfl
theorem zmd:dec 6=[54]:=by simp [dec,digs];rfl
theorem rd {l:List UInt8} {q:Rat} (h:zS q=l) (h1:(dec q.num.natAbs).length<=50000) (h2:(dec q.den).length<=50000):zq l=some q:=by rw [<- h];exact zbf ⟨h1,h2⟩
theorem rd0:zq [48]=some 0:=rd (by show (if (0:Int)<0 then [45] else []) ++ dec 0 ++ (if (1:Nat)=1 then [] else _)=_;rw [x7];rfl) (by show (dec 0).length<=_;rw [x7];decide) (by show (dec 1).length<=_;rw [Y8];decide)
theorem rd1:zq [49]=some 1:=rd (by show (if (1:Int)<0 then [45] else []) ++ dec 1 ++ (if (1:Nat)=1 then [] else _)=_;rw [Y8];rfl) (by show (dec 1).length<=_;rw [Y8];decide) (by show (dec 1).length<=_;rw [Y8];decide)
theorem rd2:zq [50]=some 2:=rd (by show (if (2:Int)<0 then [45] else []) ++ dec 2 ++ (if (1:Nat)=1 then [] else _)=_;rw [ziv];rfl) (by show (dec 2).length<=_;rw [ziv];decide) (by show (dec 1).length<=_;rw [Y8];decide)
theorem rd3:zq [51]=some 3:=rd (by show (if (3:Int)<0 then [45] else []) ++ dec 3 ++ (if (1:Nat)=1 then [] else _)=_;rw [ziw];rfl) (by show (dec 3).length<=_;rw [ziw];decide) (by show (dec 1).length<=_;rw [Y8];decide)
theorem rdm:zq [45,49]=some (-1):=rd (by show (if (-1:Int)<0 then [45] else []) ++ dec 1 ++ (if (1:Nat)=1 then [] else _)=_;rw [Y8];rfl) (by show (dec 1).length<=_;rw [Y8];decide) (by show (dec 1).length<=_;rw [Y8];decide)
theorem zpa:zS 6=[54]:=by show (if (6:Int)<0 then [45] else []) ++ dec 6 ++ (if (1:Nat)=1 then [] else _)=_;rw [zmd];rfl
def qh:Rat:=mkRat 1 2
def qt:Rat:=mkRat 1 3
theorem rdh:zq [49,47,50]=some qh:=rd (by show (if (1:Int)<0 then [45] else []) ++ dec 1 ++ (if (2:Nat)=1 then [] else 47 :: dec 2)=_;rw [Y8,ziv];rfl) (by show (dec 1).length<=_;rw [Y8];decide) (by show (dec 2).length<=_;rw [ziv];decide)
theorem rdt:zq [49,47,51]=some qt:=rd (by show (if (1:Int)<0 then [45] else []) ++ dec 1 ++ (if (3:Nat)=1 then [] else 47 :: dec 3)=_;rw [Y8,ziw];rfl) (by show (dec 1).length<=_;rw [Y8];decide) (by show (dec 3).length<=_;rw [ziw];decide)
theorem zoj:op2 (· + ·) [49,47,50] [49,47,51]=([53,47,54],0):=by
 unfold op2
 rw [rdh,rdt]
 have e:qh+qt=mkRat 5 6:=by decide+kernel
 show YY (qh+qt)=_
 rw [e]
 unfold YY
 rw [if_pos (by
  show (dec 5).length<=_/\(dec 6).length<=_
  rw [zou,zmd]
  decide)]
 show ((if (5:Int)<0 then [45] else []) ++ dec 5 ++ (if (6:Nat)=1 then [] else 47 :: dec 6),(0:Int))=_
 rw [zou,zmd]
 rfl
def zlj:List UInt8:=[49,32,120,32,60,61,32,51,10,45,49,32,120,32,60,61,32,48,10]
def zi6:List (List UInt8):=[[49,32,120,32,60,61,32,51],[45,49,32,120,32,60,61,32,48]]
def x8:List vW:=[⟨[⟨[120],[49]⟩],[51]⟩,⟨[⟨[120],[45,49]⟩],[48]⟩]
def yJ:List y8:=[⟨[120],[50]⟩]
theorem YV {q:Rat} (h1:dec q.num.natAbs=[49]\/dec q.num.natAbs=[48]\/dec q.num.natAbs=[50]\/dec q.num.natAbs=[51]) (h2:q.den=1):yP 12 q:=by
 refine ⟨?_,by rw [h2,Y8];decide⟩
 rcases h1 with h | h | h | h<;>(rw [h];decide)
theorem one {p:Nat->Prop} (h:p 0):∀ i,i<1->p i:=by
 intro i hi
 have e:i=0:=by omega
 subst e
 exact h
theorem zmm:zlo zlj zi6 x8:=by
 refine ⟨by decide,rfl,fun i hi=>?_,by decide,by decide,by decide⟩
 have hi:i<2:=hi
 rcases (show i=0\/i=1 by omega) with rfl | rfl
 . exact ⟨by decide,by decide,one (by decide),one (by decide),by decide,by decide,one (by show (zq [49]).isSome=true;rw [rd1];rfl),by show (zq [51]).isSome=true;rw [rd3];rfl,by decide,
    fun x hx=>by obtain rfl:=List.mem_singleton.1 hx;exact ⟨by unfold yR;decide,by unfold yR;decide⟩,by unfold yR;decide⟩
 . exact ⟨by decide,by decide,one (by decide),one (by decide),by decide,by decide,one (by show (zq [45,49]).isSome=true;rw [rdm];rfl),by show (zq [48]).isSome=true;rw [rd0];rfl,by decide,
    fun x hx=>by obtain rfl:=List.mem_singleton.1 hx;exact ⟨by unfold yR;decide,by unfold yR;decide⟩,by unfold yR;decide⟩
theorem zca {f:Nat->Int} (h:f 0=0):vE 1 f=0:=by
 apply Yx.2
 intro k hk
 have e:k=0:=by omega
 subst e
 exact h
theorem zdf {l:List UInt8} {q:Rat} (h:zq l=some q) (h0:q≠0) (hs:yP 12 q):vu l=0:=by unfold vu;rw [h];simp only;rw [if_neg h0,if_pos hs]
theorem zfa {l:List UInt8} {q:Rat} (h:zq l=some q) (hs:yP 12 q):xS l=0:=by unfold xS;rw [h];simp only;rw [if_pos hs]
theorem zh3 {c:List UInt8} (h:vu c=0):yY [⟨[120],c⟩]=0:=by
 unfold yY
 refine zca ?_
 unfold xU
 show (if vV [120]=false then _ else if vu c≠0 then _ else xt [120] [120] (decide (0=0)))=0
 rw [if_neg (by decide),if_neg (by rw [h];decide)]
 rfl
theorem sh1:yP 12 1:=YV (.inl (by show dec 1=_;exact Y8)) rfl
theorem shm:yP 12 (-1):=YV (.inl (by show dec 1=_;exact Y8)) rfl
theorem sh0:yP 12 0:=YV (.inr (.inl (by show dec 0=_;exact x7))) rfl
theorem sh2:yP 12 2:=YV (.inr (.inr (.inl (by show dec 2=_;exact ziv)))) rfl
theorem sh3:yP 12 3:=YV (.inr (.inr (.inr (by show dec 3=_;exact ziw)))) rfl
theorem zli {c d:List UInt8} (h:vu c=0) (k:xS d=0):XI ⟨[⟨[120],c⟩],d⟩=0:=by
 unfold XI
 rw [if_neg (by rw [zh3 h];decide)]
 exact k
theorem zh4:V3 x8 [120]:=by
 refine ⟨fun r hr=>?_,by decide,fun r hr t ht=>?_,⟨_,List.mem_cons_self ..,by decide⟩,by decide⟩
 . simp [x8] at hr
   rcases hr with rfl | rfl
   . exact zli (zdf rd1 (by decide) sh1) (zfa rd3 sh3)
   . exact zli (zdf rdm (by decide) shm) (zfa rd0 sh0)
 . simp [x8] at hr
   rcases hr with rfl | rfl
   all_goals
    simp at ht;subst ht
    rfl
theorem zmn:zek yJ [120]:=⟨zh3 (zdf rd2 (by decide) sh2),fun t ht=>by simp [yJ] at ht;subst ht;rfl⟩
theorem q0_:qOf [48]=0:=by unfold qOf;rw [rd0];rfl
theorem q1_:qOf [49]=1:=by unfold qOf;rw [rd1];rfl
theorem q2_:qOf [50]=2:=by unfold qOf;rw [rd2];rfl
theorem q3_:qOf [51]=3:=by unfold qOf;rw [rd3];rfl
theorem qm_:qOf [45,49]= -1:=by unfold qOf;rw [rdm];rfl
theorem Zn {z:Int} (h:z.natAbs<=100):Fit z:=by unfold Fit;have:=xD (d:=z.natAbs) (by omega);omega
theorem vw {M:Nat} {q:Rat} (h:q.num.natAbs<=100) (h2:q.den<=100) (hM:1<=M):ZI M q:=by
 have h1:=xD (d:=q.num.natAbs) (by omega)
 have h3:=xD (d:=(q.den:Int).natAbs) (by omega)
 exact ⟨by omega,by omega⟩
theorem YO {d:Int} {c:List UInt8} {q:Rat} (hd:d=1) (hq:qOf c=q) (h:q.den=1):vt d [⟨[120],c⟩] 1=1:=by
 show d*(Rat.divInt ((qOf c).den:Int) d).num=1
 rw [hq,h,hd]
 decide+kernel
theorem zbd {b c:List UInt8} {p q:Rat} (hb:zq b=some p) (hc:zq c=some q) (h1:p.den=1) (h2:q.den=1) (h3:p.num.natAbs<=100) (h4:q.num.natAbs<=100):zax b [⟨[120],c⟩]:=by
 have hqb:qOf b=p:=by unfold qOf;rw [hb];rfl
 have hqc:qOf c=q:=by unfold qOf;rw [hc];rfl
 have hd:((qOf b).den:Int)=1:=by rw [hqb,h1];rfl
 refine ⟨by rw [hb];rfl,by rw [hqb];exact vw h3 (by omega) (by omega),fun t ht=>?_,fun n hn=>?_,fun n hn=>?_⟩
 . rw [List.mem_singleton] at ht
   subst ht;exact ⟨by show (zq c).isSome=true;rw [hc];rfl,by show ZI _ (qOf c);rw [hqc];exact vw h4 (by omega) (by omega)⟩
 . have e:n=0:=by simp at hn;omega
   subst e
   show len 4294967296 (Rat.divInt ((qOf c).den:Int) ((qOf b).den:Int)).num.natAbs<=_
   rw [hqc,h2,hd];have:(Rat.divInt ((1:Nat):Int) 1).num.natAbs=1:=by decide+kernel
   rw [this];have:=xD (d:=1) (by omega)
   omega
 . have:n=0\/n=1:=by simp at hn;omega
   rcases this with rfl | rfl
   . show Fit ((qOf b).den:Int)/\((qOf b).den:Int)≠0
     rw [hd];exact ⟨Zn (by decide),by decide⟩
   . rw [YO hd hqc h2]
     exact ⟨Zn (by decide),by decide⟩
theorem zdb:zc0 [[120]] [120]:=⟨by decide,fun i h h1=>absurd h1 (by
 have e:[[120]].idxOf ([120]:List UInt8)=0:=by decide
 rw [e];omega),fun i h h1=>by
 have e:i=0:=by simp at h;omega
 subst e
 have h2:¬ (([120]:List UInt8)< [120]):=by decide
 exact h2⟩
theorem sc0:yT ⟨[⟨[120],[49]⟩],[51]⟩=1:=by
 show vt ((qOf [51]).den:Int) [⟨[120],[49]⟩] 1=1
 exact YO (by rw [q3_];rfl) q1_ rfl
theorem sc1:yT ⟨[⟨[120],[45,49]⟩],[48]⟩=1:=by
 show vt ((qOf [48]).den:Int) [⟨[120],[45,49]⟩] 1=1
 exact YO (by rw [q0_];rfl) qm_ rfl
theorem sg_:xi yJ=1:=by
 show vt ((qOf [48]).den:Int) [⟨[120],[50]⟩] 1=1
 exact YO (by rw [q0_];rfl) q2_ rfl
def exC:Nat->Nat->Int
 | 0=>fun k=>if k=3 then 1 else if k=1 then -1 else if k=2 then 1 else if k=0 then 3 else 0
 | 1=>fun k=>if k=3 then 1 else if k=1 then 1 else if k=2 then -1 else if k=0 then 0 else 0
 | _=>fun _=>0
def exG:Nat->Int:=fun k=>(0+if (k:Int)=1 then 2 else 0)+if (k:Int)=2 then -2 else 0
def exT:yg:=⟨1,exC,fun i=>2*1+i,fun k=>if k<2*1 then k else 2*1+2⟩
def exA:yg:=⟨1,fun i k=>if i=2 then exG k else exC i k,fun i=>2*1+i,fun k=>if k<2*1 then k else 2*1+2⟩
def exU:yg:=exA.pivot 0 1
theorem zpd {c:List UInt8}:XL [[120]] [⟨[120],c⟩] 0=0:=by unfold XL;rfl
theorem zlg {b c:List UInt8} {p q:Rat} {v z:Int} (hs:yT ⟨[⟨[120],c⟩],b⟩=1) (hb:qOf b=p) (hc:qOf c=q) (h1:xT p 1=z) (h2:xT q 1=v) (k:Nat):
 zji [[120]] ⟨[⟨[120],c⟩],b⟩ k=if k=3 then 1 else if k=1 then -v else if k=2 then v else if k=0 then z else 0:=by
 unfold zji
 rw [hs]
 show (if k=3 then 1 else (if k=1+2*XL [[120]] [⟨[120],c⟩] 0 then -(xT (qOf c) 1) else if k=2+2*XL [[120]] [⟨[120],c⟩] 0 then xT (qOf c) 1 else if k=0 then xT (qOf b) 1 else 0))=_
 rw [zpd,hb,hc,h1,h2]
theorem zkx (i k:Nat):zmv x8 [[120]] i k=exC i k:=by
 unfold zmv
 match i with
 | 0=>
   rw [if_pos (by decide)];exact zlg sc0 q3_ q1_ (z:=3) (v:=1) (by decide+kernel) (by decide+kernel) k
 | 1=>
   rw [if_pos (by decide)];exact zlg sc1 q0_ qm_ (z:=0) (v:= -1) (by decide+kernel) (by decide+kernel) k
 | i+2=>
   rw [if_neg (by show ¬ i+2<2;omega)]
   rfl
theorem zbc:zjf x8 [[120]]=exT:=by
 unfold zjf exT
 congr 1
 funext i k
 exact zkx i k
theorem co_:Ye (xi yJ) yJ 0=2:=by
 unfold Ye
 rw [sg_]
 show xT (qOf [50]) 1=2
 rw [q2_]
 decide+kernel
theorem cnt0 (k:Nat):Yg exT 2 4 ((2*0:Nat):Int) 2 k=if (k:Int)=1 then 2 else 0:=by
 unfold Yg
 have e1:xm exT.basic ((2*0:Nat):Int) 2=none:=by decide
 have e2:xm exT.other ((2*0:Nat):Int) (4 - 1)=some 0:=by decide
 rw [e1,e2]
 rfl
theorem cnt1 (k:Nat):Yg exT 2 4 ((2*0+1:Nat):Int) (-2) k=if (k:Int)=2 then -2 else 0:=by
 unfold Yg
 have e1:xm exT.basic ((2*0+1:Nat):Int) 2=none:=by decide
 have e2:xm exT.other ((2*0+1:Nat):Int) (4 - 1)=some 1:=by decide
 rw [e1,e2]
 rfl
theorem zkt (k:Nat):XT exT [[120]] 2 4 (xi yJ) yJ 1 k=exG k:=by
 show 0+Yg exT 2 4 ((2*XL [[120]] yJ 0:Nat):Int) (Ye (xi yJ) yJ 0) k+Yg exT 2 4 ((2*XL [[120]] yJ 0+1:Nat):Int) (-(Ye (xi yJ) yJ 0)) k=exG k
 rw [co_,show XL [[120]] yJ 0=0 from zpd,cnt0,cnt1]
 rfl
theorem zho:zm7 x8 [[120]] yJ=exA:=by
 unfold zm7
 rw [zbc]
 unfold yg.aimed exA
 congr 1
 funext i k
 show (if i=2 then XT exT [[120]] 2 4 (xi yJ) yJ 1 k else exC i k)=_
 rw [zkt]
theorem za8 {T:yg} (h1:0<T.den) (h2:T.den.natAbs<=100) (h3:∀ i,i<3->∀ k,k<4->(T.cell i k).natAbs<=100):T.Fits 2 4:=⟨h1,Zn h2,fun i k hi hk=>Zn (h3 i (by omega) k hk)⟩
theorem zob:zmp exT [[120]] 2 4 yJ:=by
 refine ⟨zbd rd0 rd2 rfl rfl (by decide) (by decide),fun t ht=>?_,fun t ht=>?_,fun t k ht hk=>?_,fun t k ht hk=>?_,fun u hu h=>?_⟩
 . simp [yJ] at ht
   subst ht;exact zdb
 . have e:t=0:=by simp [yJ] at ht;omega
   subst e;rw [co_];exact Zn (by decide)
 . have e:t=0:=by simp [yJ] at ht;omega
   subst e
   show len 4294967296 (0:Int).natAbs<=_
   rw [show (0:Int).natAbs=0 from rfl,Xh]
   omega
 . have e:t=0:=by simp [yJ] at ht;omega
   subst e
   show len 4294967296 (0+Yg exT 2 4 ((2*XL [[120]] yJ 0:Nat):Int) (Ye (xi yJ) yJ 0) k).natAbs<=_
   rw [co_,show XL [[120]] yJ 0=0 from zpd,cnt0];have:(0+if (k:Int)=1 then (2:Int) else 0).natAbs<=2:=by split<;>decide
   have:=xD (d:=(0+if (k:Int)=1 then (2:Int) else 0).natAbs) (by omega)
   omega
 . have:u=0\/u=1:=by simp at hu;omega
   rcases this with rfl | rfl<;>decide
theorem zop:Ys 2 4 4 (4:Int) 1 exA exU 0:=by
 refine .step exA exU 1 0 0 0 (by decide) (by decide) (by decide) (za8 (by decide) (by decide) (by decide)) ?_
 exact .top exU (by decide)
theorem zo6:zmq x8 [[120]] yJ 1 exU:=by
 refine ⟨fun r hr=>?_,by decide,by decide,by decide,fun i hi=>?_,?_,?_,?_,?_,?_,fun i hi=>?_,fun i j hi hj=>?_,fun i hi=>?_,fun k hk=>?_,fun i hi=>?_⟩
 . simp [x8] at hr
   rcases hr with rfl | rfl
   . exact ⟨zbd rd3 rd1 rfl rfl (by decide) (by decide),fun t ht=>by simp at ht;subst ht;exact zdb⟩
   . exact ⟨zbd rd0 rdm rfl rfl (by decide) (by decide),fun t ht=>by simp at ht;subst ht;exact zdb⟩
 . rw [zbc]
   have:i=0\/i=1:=by simp [x8] at hi;omega
   rcases this with rfl | rfl<;>decide
 . rw [zbc];exact za8 (by decide) (by decide) (by decide)
 . rw [zbc];exact zob
 . rw [zho];exact za8 (by decide) (by decide) (by decide)
 . rw [zho];exact zop
 . exact za8 (by decide) (by decide) (by decide)
 . have:i=0\/i=1:=by simp [x8] at hi;omega
   rcases this with rfl | rfl
   . exact .inr ⟨0,by decide,by decide⟩
   . exact .inl (by decide)
 . have e:j=0:=by simp at hj;omega
   subst e;have:i=0\/i=1\/i=2:=by simp [x8] at hi;omega
   have h1:∀ i,i<3->(VY exU 1 i 0).num.natAbs<=100/\(VY exU 1 i 0).den<=100:=by decide+kernel
   have:=h1 i (by omega);exact vw this.1 this.2 (by omega)
 . have h1:∀ i,i<2->(Rat.divInt (exU.cell i 0) exU.den).num.natAbs<=100/\(Rat.divInt (exU.cell i 0) exU.den).den<=100:=by decide+kernel
   have:=h1 i hi;exact vw this.1 this.2 (by omega)
 . have h1:∀ k,k<3->exU.other k<=1000000:=by decide
   exact h1 k hk
 . have:i=0\/i=1:=by simp [x8] at hi;omega
   rcases this with rfl | rfl
   . show Fit (yT ⟨[⟨[120],[49]⟩],[51]⟩);rw [sc0];exact Zn (by decide)
   . show Fit (yT ⟨[⟨[120],[45,49]⟩],[48]⟩);rw [sc1];exact Zn (by decide)
theorem zjn:Rat.divInt (exU.cell x8.length 0) (exU.den*xi yJ)=6:=by
 rw [sg_]
 decide+kernel
theorem zj8:ZI 67108864 (VY exU 1 x8.length 0):=by
 have h1:(VY exU 1 2 0).num.natAbs<=100/\(VY exU 1 2 0).den<=100:=by decide+kernel
 exact vw h1.1 h1.2 (by omega)
theorem zfs:∀ k,k<x8.length->ZI 67108864 (wtN exU 1 x8.length (zg0 x8) (xi yJ) (2*1+1) k):=by
 intro k hk
 have hs:∀ i,i<2->zg0 x8 i=1:=by
  intro i hi
  have:i=0\/i=1:=by omega
  rcases this with rfl | rfl
  . exact sc0
  . exact sc1
 have e:wtN exU 1 x8.length (zg0 x8) (xi yJ) (2*1+1) k=wtN exU 1 2 (fun _=>1) 1 3 k:=by
  rw [sg_]
  have hk2:k<2:=hk
  have h1:=hs k hk2
  unfold wtN wtN wtN wtN
  simp only [h1]
  rfl
 rw [e]
 have h1:∀ k,k<2->(wtN exU 1 2 (fun _=>1) 1 3 k).num.natAbs<=100/\(wtN exU 1 2 (fun _=>1) 1 3 k).den<=100:=by decide+kernel
 have:=h1 k hk
 exact vw this.1 this.2 (by omega)
end Go.Proofs.YtnpbflhjglkokaaGreatDoor
