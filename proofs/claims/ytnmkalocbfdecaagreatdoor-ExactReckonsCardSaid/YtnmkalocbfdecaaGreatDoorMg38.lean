/- Parts of the proof: memory, numbers, walks of the functions that are called. -/
import Derived.Test.YtnmkalocbfdecaaGreatDoorMg28
import Derived.Test.YtnmkalocbfdecaaGreatDoorMg37
set_option linter.unusedVariables false
set_option linter.unusedSimpArgs false
namespace Go.Proofs.YtnmkalocbfdecaaGreatDoor
open Go.RowKit
theorem YH:dec 1=[49]:=by simp [dec,digs];rfl
theorem zhr:dec 2=[50]:=by simp [dec,digs];rfl
theorem zim:dec 3=[51]:=by simp [dec,digs];rfl
theorem zpf:dec 5=[53]:=by simp [dec,digs];rfl
theorem zno:dec 6=[54]:=by simp [dec,digs];rfl
theorem rd {l:List UInt8} {q:Rat} (h:zR q=l) (h1:(dec q.num.natAbs).length<=50000) (h2:(dec q.den).length<=50000):zj l=some q:=by rw [<- h];exact ZS ⟨h1,h2⟩
theorem rd0:zj [48]=some 0:=rd (by show (if (0:Int)<0 then [45] else []) ++ dec 0 ++ (if (1:Nat)=1 then [] else _)=_;rw [xG];rfl) (by show (dec 0).length<=_;rw [xG];decide) (by show (dec 1).length<=_;rw [YH];decide)
theorem rd1:zj [49]=some 1:=rd (by show (if (1:Int)<0 then [45] else []) ++ dec 1 ++ (if (1:Nat)=1 then [] else _)=_;rw [YH];rfl) (by show (dec 1).length<=_;rw [YH];decide) (by show (dec 1).length<=_;rw [YH];decide)
theorem rd2:zj [50]=some 2:=rd (by show (if (2:Int)<0 then [45] else []) ++ dec 2 ++ (if (1:Nat)=1 then [] else _)=_;rw [zhr];rfl) (by show (dec 2).length<=_;rw [zhr];decide) (by show (dec 1).length<=_;rw [YH];decide)
theorem rd3:zj [51]=some 3:=rd (by show (if (3:Int)<0 then [45] else []) ++ dec 3 ++ (if (1:Nat)=1 then [] else _)=_;rw [zim];rfl) (by show (dec 3).length<=_;rw [zim];decide) (by show (dec 1).length<=_;rw [YH];decide)
theorem rdm:zj [45,49]=some (-1):=rd (by show (if (-1:Int)<0 then [45] else []) ++ dec 1 ++ (if (1:Nat)=1 then [] else _)=_;rw [YH];rfl) (by show (dec 1).length<=_;rw [YH];decide) (by show (dec 1).length<=_;rw [YH];decide)
theorem zp9:zR 6=[54]:=by show (if (6:Int)<0 then [45] else []) ++ dec 6 ++ (if (1:Nat)=1 then [] else _)=_;rw [zno];rfl
def qh:Rat:=mkRat 1 2
def qt:Rat:=mkRat 1 3
theorem rdh:zj [49,47,50]=some qh:=rd (by show (if (1:Int)<0 then [45] else []) ++ dec 1 ++ (if (2:Nat)=1 then [] else 47 :: dec 2)=_;rw [YH,zhr];rfl) (by show (dec 1).length<=_;rw [YH];decide) (by show (dec 2).length<=_;rw [zhr];decide)
theorem rdt:zj [49,47,51]=some qt:=rd (by show (if (1:Int)<0 then [45] else []) ++ dec 1 ++ (if (3:Nat)=1 then [] else 47 :: dec 3)=_;rw [YH,zim];rfl) (by show (dec 1).length<=_;rw [YH];decide) (by show (dec 3).length<=_;rw [zim];decide)
theorem zoy:op2 (· + ·) [49,47,50] [49,47,51]=([53,47,54],0):=by
 unfold op2
 rw [rdh,rdt]
 have e:qh+qt=mkRat 5 6:=by decide+kernel
 show xB (qh+qt)=_
 rw [e]
 unfold xB
 rw [if_pos (by
  show (dec 5).length<=_/\(dec 6).length<=_
  rw [zpf,zno]
  decide)]
 show ((if (5:Int)<0 then [45] else []) ++ dec 5 ++ (if (6:Nat)=1 then [] else 47 :: dec 6),(0:Int))=_
 rw [zpf,zno]
 rfl
def zl1:List UInt8:=[49,32,120,32,60,61,32,51,10,45,49,32,120,32,60,61,32,48,10]
def zin:List (List UInt8):=[[49,32,120,32,60,61,32,51],[45,49,32,120,32,60,61,32,48]]
def xF:List Ze:=[⟨[⟨[120],[49]⟩],[51]⟩,⟨[⟨[120],[45,49]⟩],[48]⟩]
def yH:List y8:=[⟨[120],[50]⟩]
theorem Xf {q:Rat} (h1:dec q.num.natAbs=[49]\/dec q.num.natAbs=[48]\/dec q.num.natAbs=[50]\/dec q.num.natAbs=[51]) (h2:q.den=1):yt 12 q:=by
 refine ⟨?_,by rw [h2,YH];decide⟩
 rcases h1 with h | h | h | h<;>(rw [h];decide)
theorem one {p:Nat->Prop} (h:p 0):∀ i,i<1->p i:=by
 intro i hi
 have e:i=0:=by omega
 subst e
 exact h
theorem zmi:zl6 zl1 zin xF:=by
 refine ⟨by decide,rfl,fun i hi=>?_,by decide,by decide,by decide⟩
 have hi:i<2:=hi
 rcases (show i=0\/i=1 by omega) with rfl | rfl
 . exact ⟨by decide,by decide,one (by decide),one (by decide),by decide,by decide,one (by show (zj [49]).isSome=true;rw [rd1];rfl),by show (zj [51]).isSome=true;rw [rd3];rfl,by decide,
    fun x hx=>by obtain rfl:=List.mem_singleton.1 hx;exact ⟨by unfold yT;decide,by unfold yT;decide⟩,by unfold yT;decide⟩
 . exact ⟨by decide,by decide,one (by decide),one (by decide),by decide,by decide,one (by show (zj [45,49]).isSome=true;rw [rdm];rfl),by show (zj [48]).isSome=true;rw [rd0];rfl,by decide,
    fun x hx=>by obtain rfl:=List.mem_singleton.1 hx;exact ⟨by unfold yT;decide,by unfold yT;decide⟩,by unfold yT;decide⟩
theorem zbv {f:Nat->Int} (h:f 0=0):vQ 1 f=0:=by
 apply Yu.2
 intro k hk
 have e:k=0:=by omega
 subst e
 exact h
theorem zev {l:List UInt8} {q:Rat} (h:zj l=some q) (h0:q≠0) (hs:yt 12 q):vG l=0:=by unfold vG;rw [h];simp only;rw [if_neg h0,if_pos hs]
theorem zf5 {l:List UInt8} {q:Rat} (h:zj l=some q) (hs:yt 12 q):ve l=0:=by unfold ve;rw [h];simp only;rw [if_pos hs]
theorem zjz {c:List UInt8} (h:vG c=0):xe [⟨[120],c⟩]=0:=by
 unfold xe
 refine zbv ?_
 unfold vf
 show (if Zd [120]=false then _ else if vG c≠0 then _ else x7 [120] [120] (decide (0=0)))=0
 rw [if_neg (by decide),if_neg (by rw [h];decide)]
 rfl
theorem sh1:yt 12 1:=Xf (.inl (by show dec 1=_;exact YH)) rfl
theorem shm:yt 12 (-1):=Xf (.inl (by show dec 1=_;exact YH)) rfl
theorem sh0:yt 12 0:=Xf (.inr (.inl (by show dec 0=_;exact xG))) rfl
theorem sh2:yt 12 2:=Xf (.inr (.inr (.inl (by show dec 2=_;exact zhr)))) rfl
theorem sh3:yt 12 3:=Xf (.inr (.inr (.inr (by show dec 3=_;exact zim)))) rfl
theorem zmb {c d:List UInt8} (h:vG c=0) (k:ve d=0):XY ⟨[⟨[120],c⟩],d⟩=0:=by
 unfold XY
 rw [if_neg (by rw [zjz h];decide)]
 exact k
theorem zi6:V9 xF [120]:=by
 refine ⟨fun r hr=>?_,by decide,fun r hr t ht=>?_,⟨_,List.mem_cons_self ..,by decide⟩,by decide⟩
 . simp [xF] at hr
   rcases hr with rfl | rfl
   . exact zmb (zev rd1 (by decide) sh1) (zf5 rd3 sh3)
   . exact zmb (zev rdm (by decide) shm) (zf5 rd0 sh0)
 . simp [xF] at hr
   rcases hr with rfl | rfl
   all_goals
    simp at ht;subst ht
    rfl
theorem znx:zei yH [120]:=⟨zjz (zev rd2 (by decide) sh2),fun t ht=>by simp [yH] at ht;subst ht;rfl⟩
theorem q0_:qOf [48]=0:=by unfold qOf;rw [rd0];rfl
theorem q1_:qOf [49]=1:=by unfold qOf;rw [rd1];rfl
theorem q2_:qOf [50]=2:=by unfold qOf;rw [rd2];rfl
theorem q3_:qOf [51]=3:=by unfold qOf;rw [rd3];rfl
theorem qm_:qOf [45,49]= -1:=by unfold qOf;rw [rdm];rfl
theorem Zw {z:Int} (h:z.natAbs<=100):Fit z:=by unfold Fit;have:=xa (d:=z.natAbs) (by omega);omega
theorem vI {M:Nat} {q:Rat} (h:q.num.natAbs<=100) (h2:q.den<=100) (hM:1<=M):vW M q:=by
 have h1:=xa (d:=q.num.natAbs) (by omega)
 have h3:=xa (d:=(q.den:Int).natAbs) (by omega)
 exact ⟨by omega,by omega⟩
theorem YZ {d:Int} {c:List UInt8} {q:Rat} (hd:d=1) (hq:qOf c=q) (h:q.den=1):vE d [⟨[120],c⟩] 1=1:=by
 show d*(Rat.divInt ((qOf c).den:Int) d).num=1
 rw [hq,h,hd]
 decide+kernel
theorem zbt {b c:List UInt8} {p q:Rat} (hb:zj b=some p) (hc:zj c=some q) (h1:p.den=1) (h2:q.den=1) (h3:p.num.natAbs<=100) (h4:q.num.natAbs<=100):za8 b [⟨[120],c⟩]:=by
 have hqb:qOf b=p:=by unfold qOf;rw [hb];rfl
 have hqc:qOf c=q:=by unfold qOf;rw [hc];rfl
 have hd:((qOf b).den:Int)=1:=by rw [hqb,h1];rfl
 refine ⟨by rw [hb];rfl,by rw [hqb];exact vI h3 (by omega) (by omega),fun t ht=>?_,fun n hn=>?_,fun n hn=>?_⟩
 . rw [List.mem_singleton] at ht
   subst ht;exact ⟨by show (zj c).isSome=true;rw [hc];rfl,by show vW _ (qOf c);rw [hqc];exact vI h4 (by omega) (by omega)⟩
 . have e:n=0:=by simp at hn;omega
   subst e
   show len 4294967296 (Rat.divInt ((qOf c).den:Int) ((qOf b).den:Int)).num.natAbs<=_
   rw [hqc,h2,hd];have:(Rat.divInt ((1:Nat):Int) 1).num.natAbs=1:=by decide+kernel
   rw [this];have:=xa (d:=1) (by omega)
   omega
 . have:n=0\/n=1:=by simp at hn;omega
   rcases this with rfl | rfl
   . show Fit ((qOf b).den:Int)/\((qOf b).den:Int)≠0
     rw [hd];exact ⟨Zw (by decide),by decide⟩
   . rw [YZ hd hqc h2]
     exact ⟨Zw (by decide),by decide⟩
theorem zdp:zcj [[120]] [120]:=⟨by decide,fun i h h1=>absurd h1 (by
 have e:[[120]].idxOf ([120]:List UInt8)=0:=by decide
 rw [e];omega),fun i h h1=>by
 have e:i=0:=by simp at h;omega
 subst e
 have h2:¬ (([120]:List UInt8)< [120]):=by decide
 exact h2⟩
theorem sc0:yU ⟨[⟨[120],[49]⟩],[51]⟩=1:=by
 show vE ((qOf [51]).den:Int) [⟨[120],[49]⟩] 1=1
 exact YZ (by rw [q3_];rfl) q1_ rfl
theorem sc1:yU ⟨[⟨[120],[45,49]⟩],[48]⟩=1:=by
 show vE ((qOf [48]).den:Int) [⟨[120],[45,49]⟩] 1=1
 exact YZ (by rw [q0_];rfl) qm_ rfl
theorem sg_:xu yH=1:=by
 show vE ((qOf [48]).den:Int) [⟨[120],[50]⟩] 1=1
 exact YZ (by rw [q0_];rfl) q2_ rfl
def exC:Nat->Nat->Int
 | 0=>fun k=>if k=3 then 1 else if k=1 then -1 else if k=2 then 1 else if k=0 then 3 else 0
 | 1=>fun k=>if k=3 then 1 else if k=1 then 1 else if k=2 then -1 else if k=0 then 0 else 0
 | _=>fun _=>0
def exG:Nat->Int:=fun k=>(0+if (k:Int)=1 then 2 else 0)+if (k:Int)=2 then -2 else 0
def exT:ym:=⟨1,exC,fun i=>2*1+i,fun k=>if k<2*1 then k else 2*1+2⟩
def exA:ym:=⟨1,fun i k=>if i=2 then exG k else exC i k,fun i=>2*1+i,fun k=>if k<2*1 then k else 2*1+2⟩
def exU:ym:=exA.pivot 0 1
theorem zqg {c:List UInt8}:Vb [[120]] [⟨[120],c⟩] 0=0:=by unfold Vb;rfl
theorem zme {b c:List UInt8} {p q:Rat} {v z:Int} (hs:yU ⟨[⟨[120],c⟩],b⟩=1) (hb:qOf b=p) (hc:qOf c=q) (h1:vj p 1=z) (h2:vj q 1=v) (k:Nat):
 zkr [[120]] ⟨[⟨[120],c⟩],b⟩ k=if k=3 then 1 else if k=1 then -v else if k=2 then v else if k=0 then z else 0:=by
 unfold zkr
 rw [hs]
 show (if k=3 then 1 else (if k=1+2*Vb [[120]] [⟨[120],c⟩] 0 then -(vj (qOf c) 1) else if k=2+2*Vb [[120]] [⟨[120],c⟩] 0 then vj (qOf c) 1 else if k=0 then vj (qOf b) 1 else 0))=_
 rw [zqg,hb,hc,h1,h2]
theorem zkh (i k:Nat):znc xF [[120]] i k=exC i k:=by
 unfold znc
 match i with
 | 0=>
   rw [if_pos (by decide)];exact zme sc0 q3_ q1_ (z:=3) (v:=1) (by decide+kernel) (by decide+kernel) k
 | 1=>
   rw [if_pos (by decide)];exact zme sc1 q0_ qm_ (z:=0) (v:= -1) (by decide+kernel) (by decide+kernel) k
 | i+2=>
   rw [if_neg (by show ¬ i+2<2;omega)]
   rfl
theorem zbo:zj6 xF [[120]]=exT:=by
 unfold zj6 exT
 congr 1
 funext i k
 exact zkh i k
theorem co_:Yo (xu yH) yH 0=2:=by
 unfold Yo
 rw [sg_]
 show vj (qOf [50]) 1=2
 rw [q2_]
 decide+kernel
theorem cnt0 (k:Nat):Yp exT 2 4 ((2*0:Nat):Int) 2 k=if (k:Int)=1 then 2 else 0:=by
 unfold Yp
 have e1:xz exT.basic ((2*0:Nat):Int) 2=none:=by decide
 have e2:xz exT.other ((2*0:Nat):Int) (4 - 1)=some 0:=by decide
 rw [e1,e2]
 rfl
theorem cnt1 (k:Nat):Yp exT 2 4 ((2*0+1:Nat):Int) (-2) k=if (k:Int)=2 then -2 else 0:=by
 unfold Yp
 have e1:xz exT.basic ((2*0+1:Nat):Int) 2=none:=by decide
 have e2:xz exT.other ((2*0+1:Nat):Int) (4 - 1)=some 1:=by decide
 rw [e1,e2]
 rfl
theorem zk0 (k:Nat):Vd exT [[120]] 2 4 (xu yH) yH 1 k=exG k:=by
 show 0+Yp exT 2 4 ((2*Vb [[120]] yH 0:Nat):Int) (Yo (xu yH) yH 0) k+Yp exT 2 4 ((2*Vb [[120]] yH 0+1:Nat):Int) (-(Yo (xu yH) yH 0)) k=exG k
 rw [co_,show Vb [[120]] yH 0=0 from zqg,cnt0,cnt1]
 rfl
theorem zi9:zne xF [[120]] yH=exA:=by
 unfold zne
 rw [zbo]
 unfold ym.aimed exA
 congr 1
 funext i k
 show (if i=2 then Vd exT [[120]] 2 4 (xu yH) yH 1 k else exC i k)=_
 rw [zk0]
theorem zax {T:ym} (h1:0<T.den) (h2:T.den.natAbs<=100) (h3:∀ i,i<3->∀ k,k<4->(T.cell i k).natAbs<=100):T.Fits 2 4:=⟨h1,Zw h2,fun i k hi hk=>Zw (h3 i (by omega) k hk)⟩
theorem zpd:zmr exT [[120]] 2 4 yH:=by
 refine ⟨zbt rd0 rd2 rfl rfl (by decide) (by decide),fun t ht=>?_,fun t ht=>?_,fun t k ht hk=>?_,fun t k ht hk=>?_,fun u hu h=>?_⟩
 . simp [yH] at ht
   subst ht;exact zdp
 . have e:t=0:=by simp [yH] at ht;omega
   subst e;rw [co_];exact Zw (by decide)
 . have e:t=0:=by simp [yH] at ht;omega
   subst e
   show len 4294967296 (0:Int).natAbs<=_
   rw [show (0:Int).natAbs=0 from rfl,ZZ]
   omega
 . have e:t=0:=by simp [yH] at ht;omega
   subst e
   show len 4294967296 (0+Yp exT 2 4 ((2*Vb [[120]] yH 0:Nat):Int) (Yo (xu yH) yH 0) k).natAbs<=_
   rw [co_,show Vb [[120]] yH 0=0 from zqg,cnt0];have:(0+if (k:Int)=1 then (2:Int) else 0).natAbs<=2:=by split<;>decide
   have:=xa (d:=(0+if (k:Int)=1 then (2:Int) else 0).natAbs) (by omega)
   omega
 . have:u=0\/u=1:=by simp at hu;omega
   rcases this with rfl | rfl<;>decide
theorem zo9:Yw 2 4 4 (4:Int) 1 exA exU 0:=by
 refine .step exA exU 1 0 0 0 (by decide) (by decide) (by decide) (zax (by decide) (by decide) (by decide)) ?_
 exact .top exU (by decide)
theorem zqc:znn xF [[120]] yH 1 exU:=by
 refine ⟨fun r hr=>?_,by decide,by decide,by decide,fun i hi=>?_,?_,?_,?_,?_,?_,fun i hi=>?_,fun i j hi hj=>?_,fun i hi=>?_,fun k hk=>?_,fun i hi=>?_⟩
 . simp [xF] at hr
   rcases hr with rfl | rfl
   . exact ⟨zbt rd3 rd1 rfl rfl (by decide) (by decide),fun t ht=>by simp at ht;subst ht;exact zdp⟩
   . exact ⟨zbt rd0 rdm rfl rfl (by decide) (by decide),fun t ht=>by simp at ht;subst ht;exact zdp⟩
 . rw [zbo]
   have:i=0\/i=1:=by simp [xF] at hi;omega
   rcases this with rfl | rfl<;>decide
 . rw [zbo];exact zax (by decide) (by decide) (by decide)
 . rw [zbo];exact zpd
 . rw [zi9];exact zax (by decide) (by decide) (by decide)
 . rw [zi9];exact zo9
 . exact zax (by decide) (by decide) (by decide)
 . have:i=0\/i=1:=by simp [xF] at hi;omega
   rcases this with rfl | rfl
   . exact .inr ⟨0,by decide,by decide⟩
   . exact .inl (by decide)
 . have e:j=0:=by simp at hj;omega
   subst e;have:i=0\/i=1\/i=2:=by simp [xF] at hi;omega
   have h1:∀ i,i<3->(zag exU 1 i 0).num.natAbs<=100/\(zag exU 1 i 0).den<=100:=by decide+kernel
   have:=h1 i (by omega);exact vI this.1 this.2 (by omega)
 . have h1:∀ i,i<2->(Rat.divInt (exU.cell i 0) exU.den).num.natAbs<=100/\(Rat.divInt (exU.cell i 0) exU.den).den<=100:=by decide+kernel
   have:=h1 i hi;exact vI this.1 this.2 (by omega)
 . have h1:∀ k,k<3->exU.other k<=1000000:=by decide
   exact h1 k hk
 . have:i=0\/i=1:=by simp [xF] at hi;omega
   rcases this with rfl | rfl
   . show Fit (yU ⟨[⟨[120],[49]⟩],[51]⟩);rw [sc0];exact Zw (by decide)
   . show Fit (yU ⟨[⟨[120],[45,49]⟩],[48]⟩);rw [sc1];exact Zw (by decide)
theorem zkc:Rat.divInt (exU.cell xF.length 0) (exU.den*xu yH)=6:=by
 rw [sg_]
 decide+kernel
theorem zlc:vW 67108864 (zag exU 1 xF.length 0):=by
 have h1:(zag exU 1 2 0).num.natAbs<=100/\(zag exU 1 2 0).den<=100:=by decide+kernel
 exact vI h1.1 h1.2 (by omega)
theorem zgz:∀ k,k<xF.length->vW 67108864 (wtN exU 1 xF.length (zhm xF) (xu yH) (2*1+1) k):=by
 intro k hk
 have hs:∀ i,i<2->zhm xF i=1:=by
  intro i hi
  have:i=0\/i=1:=by omega
  rcases this with rfl | rfl
  . exact sc0
  . exact sc1
 have e:wtN exU 1 xF.length (zhm xF) (xu yH) (2*1+1) k=wtN exU 1 2 (fun _=>1) 1 3 k:=by
  rw [sg_]
  have hk2:k<2:=hk
  have h1:=hs k hk2
  unfold wtN wtN wtN wtN
  simp only [h1]
  rfl
 rw [e]
 have h1:∀ k,k<2->(wtN exU 1 2 (fun _=>1) 1 3 k).num.natAbs<=100/\(wtN exU 1 2 (fun _=>1) 1 3 k).den<=100:=by decide+kernel
 have:=h1 k hk
 exact vI this.1 this.2 (by omega)
end Go.Proofs.YtnmkalocbfdecaaGreatDoor
