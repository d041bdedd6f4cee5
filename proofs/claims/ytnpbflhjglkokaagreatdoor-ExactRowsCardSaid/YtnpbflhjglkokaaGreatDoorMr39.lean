/- Parts of the proof: memory, numbers, walks of the functions that are called. -/
import Derived.Test.YtnpbflhjglkokaaGreatDoorMr34
import Derived.Test.YtnpbflhjglkokaaGreatDoorMr38
set_option linter.unusedVariables false
set_option linter.unusedSimpArgs false
namespace Go.Proofs.YtnpbflhjglkokaaGreatDoor
open Go.RowKit
theorem YO:dec 1=[49]:=by simp [dec,digs];rfl
theorem zjk:dec 2=[50]:=by simp [dec,digs];rfl
theorem zki:dec 3=[51]:=by simp [dec,digs];rfl
theorem zpn:dec 5=[53]:=by simp [dec,digs];rfl
theorem zm3:dec 6=[54]:=by simp [dec,digs];rfl
theorem rd {l:List UInt8} {q:Rat} (h:zT q=l) (h1:(dec q.num.natAbs).length<=50000) (h2:(dec q.den).length<=50000):zr l=some q:=by rw [<- h];exact Xu ⟨h1,h2⟩
theorem rd0:zr [48]=some 0:=rd (by show (if (0:Int)<0 then [45] else []) ++ dec 0 ++ (if (1:Nat)=1 then [] else _)=_;rw [xt];rfl) (by show (dec 0).length<=_;rw [xt];decide) (by show (dec 1).length<=_;rw [YO];decide)
theorem rd1:zr [49]=some 1:=rd (by show (if (1:Int)<0 then [45] else []) ++ dec 1 ++ (if (1:Nat)=1 then [] else _)=_;rw [YO];rfl) (by show (dec 1).length<=_;rw [YO];decide) (by show (dec 1).length<=_;rw [YO];decide)
theorem rd2:zr [50]=some 2:=rd (by show (if (2:Int)<0 then [45] else []) ++ dec 2 ++ (if (1:Nat)=1 then [] else _)=_;rw [zjk];rfl) (by show (dec 2).length<=_;rw [zjk];decide) (by show (dec 1).length<=_;rw [YO];decide)
theorem rd3:zr [51]=some 3:=rd (by show (if (3:Int)<0 then [45] else []) ++ dec 3 ++ (if (1:Nat)=1 then [] else _)=_;rw [zki];rfl) (by show (dec 3).length<=_;rw [zki];decide) (by show (dec 1).length<=_;rw [YO];decide)
theorem rdm:zr [45,49]=some (-1):=rd (by show (if (-1:Int)<0 then [45] else []) ++ dec 1 ++ (if (1:Nat)=1 then [] else _)=_;rw [YO];rfl) (by show (dec 1).length<=_;rw [YO];decide) (by show (dec 1).length<=_;rw [YO];decide)
theorem zqc:zT 6=[54]:=by show (if (6:Int)<0 then [45] else []) ++ dec 6 ++ (if (1:Nat)=1 then [] else _)=_;rw [zm3];rfl
def qh:Rat:=mkRat 1 2
def qt:Rat:=mkRat 1 3
theorem rdh:zr [49,47,50]=some qh:=rd (by show (if (1:Int)<0 then [45] else []) ++ dec 1 ++ (if (2:Nat)=1 then [] else 47 :: dec 2)=_;rw [YO,zjk];rfl) (by show (dec 1).length<=_;rw [YO];decide) (by show (dec 2).length<=_;rw [zjk];decide)
theorem rdt:zr [49,47,51]=some qt:=rd (by show (if (1:Int)<0 then [45] else []) ++ dec 1 ++ (if (3:Nat)=1 then [] else 47 :: dec 3)=_;rw [YO,zki];rfl) (by show (dec 1).length<=_;rw [YO];decide) (by show (dec 3).length<=_;rw [zki];decide)
theorem zpf:op2 (· + ·) [49,47,50] [49,47,51]=([53,47,54],0):=by
 unfold op2
 rw [rdh,rdt]
 have e:qh+qt=mkRat 5 6:=by decide+kernel
 show Xg (qh+qt)=_
 rw [e]
 unfold Xg
 rw [if_pos (by
  show (dec 5).length<=_/\(dec 6).length<=_
  rw [zpn,zm3]
  decide)]
 show ((if (5:Int)<0 then [45] else []) ++ dec 5 ++ (if (6:Nat)=1 then [] else 47 :: dec 6),(0:Int))=_
 rw [zpn,zm3]
 rfl
def zmn:List UInt8:=[49,32,120,32,60,61,32,51,10,45,49,32,120,32,60,61,32,48,10]
def zj6:List (List UInt8):=[[49,32,120,32,60,61,32,51],[45,49,32,120,32,60,61,32,48]]
def xJ:List xe:=[⟨[⟨[120],[49]⟩],[51]⟩,⟨[⟨[120],[45,49]⟩],[48]⟩]
def yN:List yc:=[⟨[120],[50]⟩]
theorem Xt {q:Rat} (h1:dec q.num.natAbs=[49]\/dec q.num.natAbs=[48]\/dec q.num.natAbs=[50]\/dec q.num.natAbs=[51]) (h2:q.den=1):y6 12 q:=by
 refine ⟨?_,by rw [h2,YO];decide⟩
 rcases h1 with h | h | h | h<;>(rw [h];decide)
theorem one {p:Nat->Prop} (h:p 0):∀ i,i<1->p i:=by
 intro i hi
 have e:i=0:=by omega
 subst e
 exact h
theorem zng:zmh zmn zj6 xJ:=by
 refine ⟨by decide,rfl,fun i hi=>?_,by decide,by decide,by decide⟩
 have hi:i<2:=hi
 rcases (show i=0\/i=1 by omega) with rfl | rfl
 . exact ⟨by decide,by decide,one (by decide),one (by decide),by decide,by decide,one (by show (zr [49]).isSome=true;rw [rd1];rfl),by show (zr [51]).isSome=true;rw [rd3];rfl,by decide,
    fun x hx=>by obtain rfl:=List.mem_singleton.1 hx;exact ⟨by unfold yh;decide,by unfold yh;decide⟩,by unfold yh;decide⟩
 . exact ⟨by decide,by decide,one (by decide),one (by decide),by decide,by decide,one (by show (zr [45,49]).isSome=true;rw [rdm];rfl),by show (zr [48]).isSome=true;rw [rd0];rfl,by decide,
    fun x hx=>by obtain rfl:=List.mem_singleton.1 hx;exact ⟨by unfold yh;decide,by unfold yh;decide⟩,by unfold yh;decide⟩
theorem zcq {f:Nat->Int} (h:f 0=0):vi 1 f=0:=by
 apply vS.2
 intro k hk
 have e:k=0:=by omega
 subst e
 exact h
theorem zen {l:List UInt8} {q:Rat} (h:zr l=some q) (h0:q≠0) (hs:y6 12 q):yX l=0:=by unfold yX;rw [h];simp only;rw [if_neg h0,if_pos hs]
theorem zfx {l:List UInt8} {q:Rat} (h:zr l=some q) (hs:y6 12 q):yu l=0:=by unfold yu;rw [h];simp only;rw [if_pos hs]
theorem zi7 {c:List UInt8} (h:yX c=0):yk [⟨[120],c⟩]=0:=by
 unfold yk
 refine zcq ?_
 unfold yo
 show (if x9 [120]=false then _ else if yX c≠0 then _ else y7 [120] [120] (decide (0=0)))=0
 rw [if_neg (by decide),if_neg (by rw [h];decide)]
 rfl
theorem sh1:y6 12 1:=Xt (.inl (by show dec 1=_;exact YO)) rfl
theorem shm:y6 12 (-1):=Xt (.inl (by show dec 1=_;exact YO)) rfl
theorem sh0:y6 12 0:=Xt (.inr (.inl (by show dec 0=_;exact xt))) rfl
theorem sh2:y6 12 2:=Xt (.inr (.inr (.inl (by show dec 2=_;exact zjk)))) rfl
theorem sh3:y6 12 3:=Xt (.inr (.inr (.inr (by show dec 3=_;exact zki)))) rfl
theorem zmt {c d:List UInt8} (h:yX c=0) (k:yu d=0):yQ ⟨[⟨[120],c⟩],d⟩=0:=by
 unfold yQ
 rw [if_neg (by rw [zi7 h];decide)]
 exact k
theorem zkh:Xa xJ [120]:=by
 refine ⟨fun r hr=>?_,by decide,fun r hr t ht=>?_,⟨_,List.mem_cons_self ..,by decide⟩,by decide⟩
 . simp [xJ] at hr
   rcases hr with rfl | rfl
   . exact zmt (zen rd1 (by decide) sh1) (zfx rd3 sh3)
   . exact zmt (zen rdm (by decide) shm) (zfx rd0 sh0)
 . simp [xJ] at hr
   rcases hr with rfl | rfl
   all_goals
    simp at ht;subst ht
    rfl
theorem znp:zfa yN [120]:=⟨zi7 (zen rd2 (by decide) sh2),fun t ht=>by simp [yN] at ht;subst ht;rfl⟩
theorem q0_:qOf [48]=0:=by unfold qOf;rw [rd0];rfl
theorem q1_:qOf [49]=1:=by unfold qOf;rw [rd1];rfl
theorem q2_:qOf [50]=2:=by unfold qOf;rw [rd2];rfl
theorem q3_:qOf [51]=3:=by unfold qOf;rw [rd3];rfl
theorem qm_:qOf [45,49]= -1:=by unfold qOf;rw [rdm];rfl
theorem Zr {z:Int} (h:z.natAbs<=100):Fit z:=by unfold Fit;have:=vr (d:=z.natAbs) (by omega);omega
theorem vE {M:Nat} {q:Rat} (h:q.num.natAbs<=100) (h2:q.den<=100) (hM:1<=M):Yz M q:=by
 have h1:=vr (d:=q.num.natAbs) (by omega)
 have h3:=vr (d:=(q.den:Int).natAbs) (by omega)
 exact ⟨by omega,by omega⟩
theorem Xh {d:Int} {c:List UInt8} {q:Rat} (hd:d=1) (hq:qOf c=q) (h:q.den=1):vD d [⟨[120],c⟩] 1=1:=by
 show d*(Rat.divInt ((qOf c).den:Int) d).num=1
 rw [hq,h,hd]
 decide+kernel
theorem zb8 {b c:List UInt8} {p q:Rat} (hb:zr b=some p) (hc:zr c=some q) (h1:p.den=1) (h2:q.den=1) (h3:p.num.natAbs<=100) (h4:q.num.natAbs<=100):zbp b [⟨[120],c⟩]:=by
 have hqb:qOf b=p:=by unfold qOf;rw [hb];rfl
 have hqc:qOf c=q:=by unfold qOf;rw [hc];rfl
 have hd:((qOf b).den:Int)=1:=by rw [hqb,h1];rfl
 refine ⟨by rw [hb];rfl,by rw [hqb];exact vE h3 (by omega) (by omega),fun t ht=>?_,fun n hn=>?_,fun n hn=>?_⟩
 . rw [List.mem_singleton] at ht
   subst ht;exact ⟨by show (zr c).isSome=true;rw [hc];rfl,by show Yz _ (qOf c);rw [hqc];exact vE h4 (by omega) (by omega)⟩
 . have e:n=0:=by simp at hn;omega
   subst e
   show len 4294967296 (Rat.divInt ((qOf c).den:Int) ((qOf b).den:Int)).num.natAbs<=_
   rw [hqc,h2,hd];have:(Rat.divInt ((1:Nat):Int) 1).num.natAbs=1:=by decide+kernel
   rw [this];have:=vr (d:=1) (by omega)
   omega
 . have:n=0\/n=1:=by simp at hn;omega
   rcases this with rfl | rfl
   . show Fit ((qOf b).den:Int)/\((qOf b).den:Int)≠0
     rw [hd];exact ⟨Zr (by decide),by decide⟩
   . rw [Xh hd hqc h2]
     exact ⟨Zr (by decide),by decide⟩
theorem zfe:zdu [[120]] [120]:=⟨by decide,fun i h h1=>absurd h1 (by
 have e:[[120]].idxOf ([120]:List UInt8)=0:=by decide
 rw [e];omega),fun i h h1=>by
 have e:i=0:=by simp at h;omega
 subst e
 have h2:¬ (([120]:List UInt8)< [120]):=by decide
 exact h2⟩
theorem sc0:yY ⟨[⟨[120],[49]⟩],[51]⟩=1:=by
 show vD ((qOf [51]).den:Int) [⟨[120],[49]⟩] 1=1
 exact Xh (by rw [q3_];rfl) q1_ rfl
theorem sc1:yY ⟨[⟨[120],[45,49]⟩],[48]⟩=1:=by
 show vD ((qOf [48]).den:Int) [⟨[120],[45,49]⟩] 1=1
 exact Xh (by rw [q0_];rfl) qm_ rfl
theorem sg_:x7 yN=1:=by
 show vD ((qOf [48]).den:Int) [⟨[120],[50]⟩] 1=1
 exact Xh (by rw [q0_];rfl) q2_ rfl
def exC:Nat->Nat->Int
 | 0=>fun k=>if k=3 then 1 else if k=1 then -1 else if k=2 then 1 else if k=0 then 3 else 0
 | 1=>fun k=>if k=3 then 1 else if k=1 then 1 else if k=2 then -1 else if k=0 then 0 else 0
 | _=>fun _=>0
def exG:Nat->Int:=fun k=>(0+if (k:Int)=1 then 2 else 0)+if (k:Int)=2 then -2 else 0
def exT:ym:=⟨1,exC,fun i=>2*1+i,fun k=>if k<2*1 then k else 2*1+2⟩
def exA:ym:=⟨1,fun i k=>if i=2 then exG k else exC i k,fun i=>2*1+i,fun k=>if k<2*1 then k else 2*1+2⟩
def exU:ym:=exA.pivot 0 1
theorem zp3 {c:List UInt8}:XX [[120]] [⟨[120],c⟩] 0=0:=by unfold XX;rfl
theorem zmq {b c:List UInt8} {p q:Rat} {v z:Int} (hs:yY ⟨[⟨[120],c⟩],b⟩=1) (hb:qOf b=p) (hc:qOf c=q) (h1:vq p 1=z) (h2:vq q 1=v) (k:Nat):
 zln [[120]] ⟨[⟨[120],c⟩],b⟩ k=if k=3 then 1 else if k=1 then -v else if k=2 then v else if k=0 then z else 0:=by
 unfold zln
 rw [hs]
 show (if k=3 then 1 else (if k=1+2*XX [[120]] [⟨[120],c⟩] 0 then -(vq (qOf c) 1) else if k=2+2*XX [[120]] [⟨[120],c⟩] 0 then vq (qOf c) 1 else if k=0 then vq (qOf b) 1 else 0))=_
 rw [zp3,hb,hc,h1,h2]
theorem zk8 (i k:Nat):zns xJ [[120]] i k=exC i k:=by
 unfold zns
 match i with
 | 0=>
   rw [if_pos (by decide)];exact zmq sc0 q3_ q1_ (z:=3) (v:=1) (by decide+kernel) (by decide+kernel) k
 | 1=>
   rw [if_pos (by decide)];exact zmq sc1 q0_ qm_ (z:=0) (v:= -1) (by decide+kernel) (by decide+kernel) k
 | i+2=>
   rw [if_neg (by show ¬ i+2<2;omega)]
   rfl
theorem zb0:zkl xJ [[120]]=exT:=by
 unfold zkl exT
 congr 1
 funext i k
 exact zk8 i k
theorem co_:Yw (x7 yN) yN 0=2:=by
 unfold Yw
 rw [sg_]
 show vq (qOf [50]) 1=2
 rw [q2_]
 decide+kernel
theorem cnt0 (k:Nat):Yv exT 2 4 ((2*0:Nat):Int) 2 k=if (k:Int)=1 then 2 else 0:=by
 unfold Yv
 have e1:xz exT.basic ((2*0:Nat):Int) 2=none:=by decide
 have e2:xz exT.other ((2*0:Nat):Int) (4 - 1)=some 0:=by decide
 rw [e1,e2]
 rfl
theorem cnt1 (k:Nat):Yv exT 2 4 ((2*0+1:Nat):Int) (-2) k=if (k:Int)=2 then -2 else 0:=by
 unfold Yv
 have e1:xz exT.basic ((2*0+1:Nat):Int) 2=none:=by decide
 have e2:xz exT.other ((2*0+1:Nat):Int) (4 - 1)=some 1:=by decide
 rw [e1,e2]
 rfl
theorem zkz (k:Nat):Vm exT [[120]] 2 4 (x7 yN) yN 1 k=exG k:=by
 show 0+Yv exT 2 4 ((2*XX [[120]] yN 0:Nat):Int) (Yw (x7 yN) yN 0) k+Yv exT 2 4 ((2*XX [[120]] yN 0+1:Nat):Int) (-(Yw (x7 yN) yN 0)) k=exG k
 rw [co_,show XX [[120]] yN 0=0 from zp3,cnt0,cnt1]
 rfl
theorem ziy:zoa xJ [[120]] yN=exA:=by
 unfold zoa
 rw [zb0]
 unfold ym.aimed exA
 congr 1
 funext i k
 show (if i=2 then Vm exT [[120]] 2 4 (x7 yN) yN 1 k else exC i k)=_
 rw [zkz]
theorem zbu {T:ym} (h1:0<T.den) (h2:T.den.natAbs<=100) (h3:∀ i,i<3->∀ k,k<4->(T.cell i k).natAbs<=100):T.Fits 2 4:=⟨h1,Zr h2,fun i k hi hk=>Zr (h3 i (by omega) k hk)⟩
theorem zpg:zm7 exT [[120]] 2 4 yN:=by
 refine ⟨zb8 rd0 rd2 rfl rfl (by decide) (by decide),fun t ht=>?_,fun t ht=>?_,fun t k ht hk=>?_,fun t k ht hk=>?_,fun u hu h=>?_⟩
 . simp [yN] at ht
   subst ht;exact zfe
 . have e:t=0:=by simp [yN] at ht;omega
   subst e;rw [co_];exact Zr (by decide)
 . have e:t=0:=by simp [yN] at ht;omega
   subst e
   show len 4294967296 (0:Int).natAbs<=_
   rw [show (0:Int).natAbs=0 from rfl,Vo]
   omega
 . have e:t=0:=by simp [yN] at ht;omega
   subst e
   show len 4294967296 (0+Yv exT 2 4 ((2*XX [[120]] yN 0:Nat):Int) (Yw (x7 yN) yN 0) k).natAbs<=_
   rw [co_,show XX [[120]] yN 0=0 from zp3,cnt0];have:(0+if (k:Int)=1 then (2:Int) else 0).natAbs<=2:=by split<;>decide
   have:=vr (d:=(0+if (k:Int)=1 then (2:Int) else 0).natAbs) (by omega)
   omega
 . have:u=0\/u=1:=by simp at hu;omega
   rcases this with rfl | rfl<;>decide
theorem zpd:Y9 2 4 4 (4:Int) 1 exA exU 0:=by
 refine .step exA exU 1 0 0 0 (by decide) (by decide) (by decide) (zbu (by decide) (by decide) (by decide)) ?_
 exact .top exU (by decide)
theorem zp4:znt xJ [[120]] yN 1 exU:=by
 refine ⟨fun r hr=>?_,by decide,by decide,by decide,fun i hi=>?_,?_,?_,?_,?_,?_,fun i hi=>?_,fun i j hi hj=>?_,fun i hi=>?_,fun k hk=>?_,fun i hi=>?_⟩
 . simp [xJ] at hr
   rcases hr with rfl | rfl
   . exact ⟨zb8 rd3 rd1 rfl rfl (by decide) (by decide),fun t ht=>by simp at ht;subst ht;exact zfe⟩
   . exact ⟨zb8 rd0 rdm rfl rfl (by decide) (by decide),fun t ht=>by simp at ht;subst ht;exact zfe⟩
 . rw [zb0]
   have:i=0\/i=1:=by simp [xJ] at hi;omega
   rcases this with rfl | rfl<;>decide
 . rw [zb0];exact zbu (by decide) (by decide) (by decide)
 . rw [zb0];exact zpg
 . rw [ziy];exact zbu (by decide) (by decide) (by decide)
 . rw [ziy];exact zpd
 . exact zbu (by decide) (by decide) (by decide)
 . have:i=0\/i=1:=by simp [xJ] at hi;omega
   rcases this with rfl | rfl
   . exact .inr ⟨0,by decide,by decide⟩
   . exact .inl (by decide)
 . have e:j=0:=by simp at hj;omega
   subst e;have:i=0\/i=1\/i=2:=by simp [xJ] at hi;omega
   have h1:∀ i,i<3->(za2 exU 1 i 0).num.natAbs<=100/\(za2 exU 1 i 0).den<=100:=by decide+kernel
   have:=h1 i (by omega);exact vE this.1 this.2 (by omega)
 . have h1:∀ i,i<2->(Rat.divInt (exU.cell i 0) exU.den).num.natAbs<=100/\(Rat.divInt (exU.cell i 0) exU.den).den<=100:=by decide+kernel
   have:=h1 i hi;exact vE this.1 this.2 (by omega)
 . have h1:∀ k,k<3->exU.other k<=1000000:=by decide
   exact h1 k hk
 . have:i=0\/i=1:=by simp [xJ] at hi;omega
   rcases this with rfl | rfl
   . show Fit (yY ⟨[⟨[120],[49]⟩],[51]⟩);rw [sc0];exact Zr (by decide)
   . show Fit (yY ⟨[⟨[120],[45,49]⟩],[48]⟩);rw [sc1];exact Zr (by decide)
theorem zla:Rat.divInt (exU.cell xJ.length 0) (exU.den*x7 yN)=6:=by
 rw [sg_]
 decide+kernel
theorem zl5:Yz 67108864 (za2 exU 1 xJ.length 0):=by
 have h1:(za2 exU 1 2 0).num.natAbs<=100/\(za2 exU 1 2 0).den<=100:=by decide+kernel
 exact vE h1.1 h1.2 (by omega)
theorem zhu:∀ k,k<xJ.length->Yz 67108864 (wtN exU 1 xJ.length (zh1 xJ) (x7 yN) (2*1+1) k):=by
 intro k hk
 have hs:∀ i,i<2->zh1 xJ i=1:=by
  intro i hi
  have:i=0\/i=1:=by omega
  rcases this with rfl | rfl
  . exact sc0
  . exact sc1
 have e:wtN exU 1 xJ.length (zh1 xJ) (x7 yN) (2*1+1) k=wtN exU 1 2 (fun _=>1) 1 3 k:=by
  rw [sg_]
  have hk2:k<2:=hk
  have h1:=hs k hk2
  unfold wtN wtN wtN wtN
  simp only [h1]
  rfl
 rw [e]
 have h1:∀ k,k<2->(wtN exU 1 2 (fun _=>1) 1 3 k).num.natAbs<=100/\(wtN exU 1 2 (fun _=>1) 1 3 k).den<=100:=by decide+kernel
 have:=h1 k hk
 exact vE this.1 this.2 (by omega)
end Go.Proofs.YtnpbflhjglkokaaGreatDoor
