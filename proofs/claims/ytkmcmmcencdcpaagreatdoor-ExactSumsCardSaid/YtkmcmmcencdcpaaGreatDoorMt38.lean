/- Parts of the proof: memory, numbers, walks of the functions that are called. -/
import Derived.Test.YtkmcmmcencdcpaaGreatDoorMt33
import Derived.Test.YtkmcmmcencdcpaaGreatDoorMt37
set_option linter.unusedVariables false
set_option linter.unusedSimpArgs false
namespace Go.Proofs.YtkmcmmcencdcpaaGreatDoor
open Go.RowKit
theorem Xh:dec 1=[49]:=by simp [dec,digs];rfl
theorem zk6:dec 2=[50]:=by simp [dec,digs];rfl
theorem zkf:dec 3=[51]:=by simp [dec,digs];rfl
theorem zsa:dec 5=[53]:=by simp [dec,digs];rfl
theorem zqv:dec 6=[54]:=by simp [dec,digs];rfl
theorem rd {l:List UInt8} {q:Rat} (h:zT q=l) (h1:(dec q.num.natAbs).length<=50000) (h2:(dec q.den).length<=50000):zp l=some q:=by rw [<- h];exact XC ⟨h1,h2⟩
theorem rd0:zp [48]=some 0:=rd (by show (if (0:Int)<0 then [45] else []) ++ dec 0 ++ (if (1:Nat)=1 then [] else _)=_;rw [xV];rfl) (by show (dec 0).length<=_;rw [xV];decide) (by show (dec 1).length<=_;rw [Xh];decide)
theorem rd1:zp [49]=some 1:=rd (by show (if (1:Int)<0 then [45] else []) ++ dec 1 ++ (if (1:Nat)=1 then [] else _)=_;rw [Xh];rfl) (by show (dec 1).length<=_;rw [Xh];decide) (by show (dec 1).length<=_;rw [Xh];decide)
theorem rd2:zp [50]=some 2:=rd (by show (if (2:Int)<0 then [45] else []) ++ dec 2 ++ (if (1:Nat)=1 then [] else _)=_;rw [zk6];rfl) (by show (dec 2).length<=_;rw [zk6];decide) (by show (dec 1).length<=_;rw [Xh];decide)
theorem rd3:zp [51]=some 3:=rd (by show (if (3:Int)<0 then [45] else []) ++ dec 3 ++ (if (1:Nat)=1 then [] else _)=_;rw [zkf];rfl) (by show (dec 3).length<=_;rw [zkf];decide) (by show (dec 1).length<=_;rw [Xh];decide)
theorem rdm:zp [45,49]=some (-1):=rd (by show (if (-1:Int)<0 then [45] else []) ++ dec 1 ++ (if (1:Nat)=1 then [] else _)=_;rw [Xh];rfl) (by show (dec 1).length<=_;rw [Xh];decide) (by show (dec 1).length<=_;rw [Xh];decide)
theorem zsx:zT 6=[54]:=by show (if (6:Int)<0 then [45] else []) ++ dec 6 ++ (if (1:Nat)=1 then [] else _)=_;rw [zqv];rfl
def qh:Rat:=mkRat 1 2
def qt:Rat:=mkRat 1 3
theorem rdh:zp [49,47,50]=some qh:=rd (by show (if (1:Int)<0 then [45] else []) ++ dec 1 ++ (if (2:Nat)=1 then [] else 47 :: dec 2)=_;rw [Xh,zk6];rfl) (by show (dec 1).length<=_;rw [Xh];decide) (by show (dec 2).length<=_;rw [zk6];decide)
theorem rdt:zp [49,47,51]=some qt:=rd (by show (if (1:Int)<0 then [45] else []) ++ dec 1 ++ (if (3:Nat)=1 then [] else 47 :: dec 3)=_;rw [Xh,zkf];rfl) (by show (dec 1).length<=_;rw [Xh];decide) (by show (dec 3).length<=_;rw [zkf];decide)
theorem zq7:op2 (· + ·) [49,47,50] [49,47,51]=([53,47,54],0):=by
 unfold op2
 rw [rdh,rdt]
 have e:qh+qt=mkRat 5 6:=by decide+kernel
 show Zn (qh+qt)=_
 rw [e]
 unfold Zn
 rw [if_pos (by
  show (dec 5).length<=_/\(dec 6).length<=_
  rw [zsa,zqv]
  decide)]
 show ((if (5:Int)<0 then [45] else []) ++ dec 5 ++ (if (6:Nat)=1 then [] else 47 :: dec 6),(0:Int))=_
 rw [zsa,zqv]
 rfl
def zow:List UInt8:=[49,32,120,32,60,61,32,51,10,45,49,32,120,32,60,61,32,48,10]
def zk8:List (List UInt8):=[[49,32,120,32,60,61,32,51],[45,49,32,120,32,60,61,32,48]]
def vi:List yU:=[⟨[⟨[120],[49]⟩],[51]⟩,⟨[⟨[120],[45,49]⟩],[48]⟩]
def xe:List zG:=[⟨[120],[50]⟩]
theorem Va {q:Rat} (h1:dec q.num.natAbs=[49]\/dec q.num.natAbs=[48]\/dec q.num.natAbs=[50]\/dec q.num.natAbs=[51]) (h2:q.den=1):yE 12 q:=by
 refine ⟨?_,by rw [h2,Xh];decide⟩
 rcases h1 with h | h | h | h<;>(rw [h];decide)
theorem one {p:Nat->Prop} (h:p 0):∀ i,i<1->p i:=by
 intro i hi
 have e:i=0:=by omega
 subst e
 exact h
theorem zpk:zov zow zk8 vi:=by
 refine ⟨by decide,rfl,fun i hi=>?_,by decide,by decide,by decide⟩
 have hi:i<2:=hi
 rcases (show i=0\/i=1 by omega) with rfl | rfl
 . exact ⟨by decide,by decide,one (by decide),one (by decide),by decide,by decide,one (by show (zp [49]).isSome=true;rw [rd1];rfl),by show (zp [51]).isSome=true;rw [rd3];rfl,by decide,
    fun x hx=>by obtain rfl:=List.mem_singleton.1 hx;exact ⟨by unfold yo;decide,by unfold yo;decide⟩,by unfold yo;decide⟩
 . exact ⟨by decide,by decide,one (by decide),one (by decide),by decide,by decide,one (by show (zp [45,49]).isSome=true;rw [rdm];rfl),by show (zp [48]).isSome=true;rw [rd0];rfl,by decide,
    fun x hx=>by obtain rfl:=List.mem_singleton.1 hx;exact ⟨by unfold yo;decide,by unfold yo;decide⟩,by unfold yo;decide⟩
theorem zdq {f:Nat->Int} (h:f 0=0):xO 1 f=0:=by
 apply xb.2
 intro k hk
 have e:k=0:=by omega
 subst e
 exact h
theorem zfw {l:List UInt8} {q:Rat} (h:zp l=some q) (h0:q≠0) (hs:yE 12 q):yV l=0:=by unfold yV;rw [h];simp only;rw [if_neg h0,if_pos hs]
theorem zhv {l:List UInt8} {q:Rat} (h:zp l=some q) (hs:yE 12 q):y9 l=0:=by unfold y9;rw [h];simp only;rw [if_pos hs]
theorem zj0 {c:List UInt8} (h:yV c=0):zQ [⟨[120],c⟩]=0:=by
 unfold zQ
 refine zdq ?_
 unfold yw
 show (if x8 [120]=false then _ else if yV c≠0 then _ else yh [120] [120] (decide (0=0)))=0
 rw [if_neg (by decide),if_neg (by rw [h];decide)]
 rfl
theorem sh1:yE 12 1:=Va (.inl (by show dec 1=_;exact Xh)) rfl
theorem shm:yE 12 (-1):=Va (.inl (by show dec 1=_;exact Xh)) rfl
theorem sh0:yE 12 0:=Va (.inr (.inl (by show dec 0=_;exact xV))) rfl
theorem sh2:yE 12 2:=Va (.inr (.inr (.inl (by show dec 2=_;exact zk6)))) rfl
theorem sh3:yE 12 3:=Va (.inr (.inr (.inr (by show dec 3=_;exact zkf)))) rfl
theorem zo8 {c d:List UInt8} (h:yV c=0) (k:y9 d=0):yS ⟨[⟨[120],c⟩],d⟩=0:=by
 unfold yS
 rw [if_neg (by rw [zj0 h];decide)]
 exact k
theorem zj5:X4 vi [120]:=by
 refine ⟨fun r hr=>?_,by decide,fun r hr t ht=>?_,⟨_,List.mem_cons_self ..,by decide⟩,by decide⟩
 . simp [vi] at hr
   rcases hr with rfl | rfl
   . exact zo8 (zfw rd1 (by decide) sh1) (zhv rd3 sh3)
   . exact zo8 (zfw rdm (by decide) shm) (zhv rd0 sh0)
 . simp [vi] at hr
   rcases hr with rfl | rfl
   all_goals
    simp at ht;subst ht
    rfl
theorem zqx:zfu xe [120]:=⟨zj0 (zfw rd2 (by decide) sh2),fun t ht=>by simp [xe] at ht;subst ht;rfl⟩
theorem q0_:qOf [48]=0:=by unfold qOf;rw [rd0];rfl
theorem q1_:qOf [49]=1:=by unfold qOf;rw [rd1];rfl
theorem q2_:qOf [50]=2:=by unfold qOf;rw [rd2];rfl
theorem q3_:qOf [51]=3:=by unfold qOf;rw [rd3];rfl
theorem qm_:qOf [45,49]= -1:=by unfold qOf;rw [rdm];rfl
theorem ZF {z:Int} (h:z.natAbs<=100):Fit z:=by unfold Fit;have:=vK (d:=z.natAbs) (by omega);omega
theorem Zf {M:Nat} {q:Rat} (h:q.num.natAbs<=100) (h2:q.den<=100) (hM:1<=M):ZW M q:=by
 have h1:=vK (d:=q.num.natAbs) (by omega)
 have h3:=vK (d:=(q.den:Int).natAbs) (by omega)
 exact ⟨by omega,by omega⟩
theorem XT {d:Int} {c:List UInt8} {q:Rat} (hd:d=1) (hq:qOf c=q) (h:q.den=1):Zd d [⟨[120],c⟩] 1=1:=by
 show d*(Rat.divInt ((qOf c).den:Int) d).num=1
 rw [hq,h,hd]
 decide+kernel
theorem zc3 {b c:List UInt8} {p q:Rat} (hb:zp b=some p) (hc:zp c=some q) (h1:p.den=1) (h2:q.den=1) (h3:p.num.natAbs<=100) (h4:q.num.natAbs<=100):zct b [⟨[120],c⟩]:=by
 have hqb:qOf b=p:=by unfold qOf;rw [hb];rfl
 have hqc:qOf c=q:=by unfold qOf;rw [hc];rfl
 have hd:((qOf b).den:Int)=1:=by rw [hqb,h1];rfl
 refine ⟨by rw [hb];rfl,by rw [hqb];exact Zf h3 (by omega) (by omega),fun t ht=>?_,fun n hn=>?_,fun n hn=>?_⟩
 . rw [List.mem_singleton] at ht
   subst ht;exact ⟨by show (zp c).isSome=true;rw [hc];rfl,by show ZW _ (qOf c);rw [hqc];exact Zf h4 (by omega) (by omega)⟩
 . have e:n=0:=by simp at hn;omega
   subst e
   show len 4294967296 (Rat.divInt ((qOf c).den:Int) ((qOf b).den:Int)).num.natAbs<=_
   rw [hqc,h2,hd];have:(Rat.divInt ((1:Nat):Int) 1).num.natAbs=1:=by decide+kernel
   rw [this];have:=vK (d:=1) (by omega)
   omega
 . have:n=0\/n=1:=by simp at hn;omega
   rcases this with rfl | rfl
   . show Fit ((qOf b).den:Int)/\((qOf b).den:Int)≠0
     rw [hd];exact ⟨ZF (by decide),by decide⟩
   . rw [XT hd hqc h2]
     exact ⟨ZF (by decide),by decide⟩
theorem zg8:zex [[120]] [120]:=⟨by decide,fun i h h1=>absurd h1 (by
 have e:[[120]].idxOf ([120]:List UInt8)=0:=by decide
 rw [e];omega),fun i h h1=>by
 have e:i=0:=by simp at h;omega
 subst e
 have h2:¬ (([120]:List UInt8)< [120]):=by decide
 exact h2⟩
theorem sc0:xq ⟨[⟨[120],[49]⟩],[51]⟩=1:=by
 show Zd ((qOf [51]).den:Int) [⟨[120],[49]⟩] 1=1
 exact XT (by rw [q3_];rfl) q1_ rfl
theorem sc1:xq ⟨[⟨[120],[45,49]⟩],[48]⟩=1:=by
 show Zd ((qOf [48]).den:Int) [⟨[120],[45,49]⟩] 1=1
 exact XT (by rw [q0_];rfl) qm_ rfl
theorem sg_:xU xe=1:=by
 show Zd ((qOf [48]).den:Int) [⟨[120],[50]⟩] 1=1
 exact XT (by rw [q0_];rfl) q2_ rfl
def exC:Nat->Nat->Int
 | 0=>fun k=>if k=3 then 1 else if k=1 then -1 else if k=2 then 1 else if k=0 then 3 else 0
 | 1=>fun k=>if k=3 then 1 else if k=1 then 1 else if k=2 then -1 else if k=0 then 0 else 0
 | _=>fun _=>0
def exG:Nat->Int:=fun k=>(0+if (k:Int)=1 then 2 else 0)+if (k:Int)=2 then -2 else 0
def exT:yy:=⟨1,exC,fun i=>2*1+i,fun k=>if k<2*1 then k else 2*1+2⟩
def exA:yy:=⟨1,fun i k=>if i=2 then exG k else exC i k,fun i=>2*1+i,fun k=>if k<2*1 then k else 2*1+2⟩
def exU:yy:=exA.pivot 0 1
theorem zsw {c:List UInt8}:VM [[120]] [⟨[120],c⟩] 0=0:=by unfold VM;rfl
theorem zo6 {b c:List UInt8} {p q:Rat} {v z:Int} (hs:xq ⟨[⟨[120],c⟩],b⟩=1) (hb:qOf b=p) (hc:qOf c=q) (h1:vO p 1=z) (h2:vO q 1=v) (k:Nat):
 zm4 [[120]] ⟨[⟨[120],c⟩],b⟩ k=if k=3 then 1 else if k=1 then -v else if k=2 then v else if k=0 then z else 0:=by
 unfold zm4
 rw [hs]
 show (if k=3 then 1 else (if k=1+2*VM [[120]] [⟨[120],c⟩] 0 then -(vO (qOf c) 1) else if k=2+2*VM [[120]] [⟨[120],c⟩] 0 then vO (qOf c) 1 else if k=0 then vO (qOf b) 1 else 0))=_
 rw [zsw,hb,hc,h1,h2]
theorem zn1 (i k:Nat):zpl vi [[120]] i k=exC i k:=by
 unfold zpl
 match i with
 | 0=>
   rw [if_pos (by decide)];exact zo6 sc0 q3_ q1_ (z:=3) (v:=1) (by decide+kernel) (by decide+kernel) k
 | 1=>
   rw [if_pos (by decide)];exact zo6 sc1 q0_ qm_ (z:=0) (v:= -1) (by decide+kernel) (by decide+kernel) k
 | i+2=>
   rw [if_neg (by show ¬ i+2<2;omega)]
   rfl
theorem zdf:zmp vi [[120]]=exT:=by
 unfold zmp exT
 congr 1
 funext i k
 exact zn1 i k
theorem co_:YD (xU xe) xe 0=2:=by
 unfold YD
 rw [sg_]
 show vO (qOf [50]) 1=2
 rw [q2_]
 decide+kernel
theorem cnt0 (k:Nat):YC exT 2 4 ((2*0:Nat):Int) 2 k=if (k:Int)=1 then 2 else 0:=by
 unfold YC
 have e1:xT exT.basic ((2*0:Nat):Int) 2=none:=by decide
 have e2:xT exT.other ((2*0:Nat):Int) (4 - 1)=some 0:=by decide
 rw [e1,e2]
 rfl
theorem cnt1 (k:Nat):YC exT 2 4 ((2*0+1:Nat):Int) (-2) k=if (k:Int)=2 then -2 else 0:=by
 unfold YC
 have e1:xT exT.basic ((2*0+1:Nat):Int) 2=none:=by decide
 have e2:xT exT.other ((2*0+1:Nat):Int) (4 - 1)=some 1:=by decide
 rw [e1,e2]
 rfl
theorem znz (k:Nat):VP exT [[120]] 2 4 (xU xe) xe 1 k=exG k:=by
 show 0+YC exT 2 4 ((2*VM [[120]] xe 0:Nat):Int) (YD (xU xe) xe 0) k+YC exT 2 4 ((2*VM [[120]] xe 0+1:Nat):Int) (-(YD (xU xe) xe 0)) k=exG k
 rw [co_,show VM [[120]] xe 0=0 from zsw,cnt0,cnt1]
 rfl
theorem zkd:zqw vi [[120]] xe=exA:=by
 unfold zqw
 rw [zdf]
 unfold yy.aimed exA
 congr 1
 funext i k
 show (if i=2 then VP exT [[120]] 2 4 (xU xe) xe 1 k else exC i k)=_
 rw [znz]
theorem zc4 {T:yy} (h1:0<T.den) (h2:T.den.natAbs<=100) (h3:∀ i,i<3->∀ k,k<4->(T.cell i k).natAbs<=100):T.Fits 2 4:=⟨h1,ZF h2,fun i k hi hk=>ZF (h3 i (by omega) k hk)⟩
theorem zsb:zp5 exT [[120]] 2 4 xe:=by
 refine ⟨zc3 rd0 rd2 rfl rfl (by decide) (by decide),fun t ht=>?_,fun t ht=>?_,fun t k ht hk=>?_,fun t k ht hk=>?_,fun u hu h=>?_⟩
 . simp [xe] at ht
   subst ht;exact zg8
 . have e:t=0:=by simp [xe] at ht;omega
   subst e;rw [co_];exact ZF (by decide)
 . have e:t=0:=by simp [xe] at ht;omega
   subst e
   show len 4294967296 (0:Int).natAbs<=_
   rw [show (0:Int).natAbs=0 from rfl,YV]
   omega
 . have e:t=0:=by simp [xe] at ht;omega
   subst e
   show len 4294967296 (0+YC exT 2 4 ((2*VM [[120]] xe 0:Nat):Int) (YD (xU xe) xe 0) k).natAbs<=_
   rw [co_,show VM [[120]] xe 0=0 from zsw,cnt0];have:(0+if (k:Int)=1 then (2:Int) else 0).natAbs<=2:=by split<;>decide
   have:=vK (d:=(0+if (k:Int)=1 then (2:Int) else 0).natAbs) (by omega)
   omega
 . have:u=0\/u=1:=by simp at hu;omega
   rcases this with rfl | rfl<;>decide
theorem zri:YT 2 4 4 (4:Int) 1 exA exU 0:=by
 refine .step exA exU 1 0 0 0 (by decide) (by decide) (by decide) (zc4 (by decide) (by decide) (by decide)) ?_
 exact .top exU (by decide)
theorem zsz:zpc vi [[120]] xe 1 exU:=by
 refine ⟨fun r hr=>?_,by decide,by decide,by decide,fun i hi=>?_,?_,?_,?_,?_,?_,fun i hi=>?_,fun i j hi hj=>?_,fun i hi=>?_,fun k hk=>?_,fun i hi=>?_⟩
 . simp [vi] at hr
   rcases hr with rfl | rfl
   . exact ⟨zc3 rd3 rd1 rfl rfl (by decide) (by decide),fun t ht=>by simp at ht;subst ht;exact zg8⟩
   . exact ⟨zc3 rd0 rdm rfl rfl (by decide) (by decide),fun t ht=>by simp at ht;subst ht;exact zg8⟩
 . rw [zdf]
   have:i=0\/i=1:=by simp [vi] at hi;omega
   rcases this with rfl | rfl<;>decide
 . rw [zdf];exact zc4 (by decide) (by decide) (by decide)
 . rw [zdf];exact zsb
 . rw [zkd];exact zc4 (by decide) (by decide) (by decide)
 . rw [zkd];exact zri
 . exact zc4 (by decide) (by decide) (by decide)
 . have:i=0\/i=1:=by simp [vi] at hi;omega
   rcases this with rfl | rfl
   . exact .inr ⟨0,by decide,by decide⟩
   . exact .inl (by decide)
 . have e:j=0:=by simp at hj;omega
   subst e;have:i=0\/i=1\/i=2:=by simp [vi] at hi;omega
   have h1:∀ i,i<3->(zcc exU 1 i 0).num.natAbs<=100/\(zcc exU 1 i 0).den<=100:=by decide+kernel
   have:=h1 i (by omega);exact Zf this.1 this.2 (by omega)
 . have h1:∀ i,i<2->(Rat.divInt (exU.cell i 0) exU.den).num.natAbs<=100/\(Rat.divInt (exU.cell i 0) exU.den).den<=100:=by decide+kernel
   have:=h1 i hi;exact Zf this.1 this.2 (by omega)
 . have h1:∀ k,k<3->exU.other k<=1000000:=by decide
   exact h1 k hk
 . have:i=0\/i=1:=by simp [vi] at hi;omega
   rcases this with rfl | rfl
   . show Fit (xq ⟨[⟨[120],[49]⟩],[51]⟩);rw [sc0];exact ZF (by decide)
   . show Fit (xq ⟨[⟨[120],[45,49]⟩],[48]⟩);rw [sc1];exact ZF (by decide)
theorem znl:Rat.divInt (exU.cell vi.length 0) (exU.den*xU xe)=6:=by
 rw [sg_]
 decide+kernel
theorem zoc:ZW 67108864 (zcc exU 1 vi.length 0):=by
 have h1:(zcc exU 1 2 0).num.natAbs<=100/\(zcc exU 1 2 0).den<=100:=by decide+kernel
 exact Zf h1.1 h1.2 (by omega)
theorem zir:∀ k,k<vi.length->ZW 67108864 (wtN exU 1 vi.length (zju vi) (xU xe) (2*1+1) k):=by
 intro k hk
 have hs:∀ i,i<2->zju vi i=1:=by
  intro i hi
  have:i=0\/i=1:=by omega
  rcases this with rfl | rfl
  . exact sc0
  . exact sc1
 have e:wtN exU 1 vi.length (zju vi) (xU xe) (2*1+1) k=wtN exU 1 2 (fun _=>1) 1 3 k:=by
  rw [sg_]
  have hk2:k<2:=hk
  have h1:=hs k hk2
  unfold wtN wtN wtN wtN
  simp only [h1]
  rfl
 rw [e]
 have h1:∀ k,k<2->(wtN exU 1 2 (fun _=>1) 1 3 k).num.natAbs<=100/\(wtN exU 1 2 (fun _=>1) 1 3 k).den<=100:=by decide+kernel
 have:=h1 k hk
 exact Zf this.1 this.2 (by omega)
end Go.Proofs.YtkmcmmcencdcpaaGreatDoor
