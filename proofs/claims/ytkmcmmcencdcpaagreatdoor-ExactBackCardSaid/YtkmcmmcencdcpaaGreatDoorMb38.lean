/- Parts of the proof: memory, numbers, walks of the functions that are called. -/
import Derived.Test.YtkmcmmcencdcpaaGreatDoorMb32
import Derived.Test.YtkmcmmcencdcpaaGreatDoorMb37
set_option linter.unusedVariables false
set_option linter.unusedSimpArgs false
namespace Go.Proofs.YtkmcmmcencdcpaaGreatDoor
open Go.RowKit
theorem ZZ:dec 1=[49]:=by simp [dec,digs];rfl
theorem zgy:dec 2=[50]:=by simp [dec,digs];rfl
theorem zfn:dec 3=[51]:=by simp [dec,digs];rfl
theorem zmd:dec 5=[53]:=by simp [dec,digs];rfl
theorem zk4:dec 6=[54]:=by simp [dec,digs];rfl
theorem rd {l:List UInt8} {q:Rat} (h:yh q=l) (h1:(dec q.num.natAbs).length<=50000) (h2:(dec q.den).length<=50000):zl l=some q:=by rw [<- h];exact VX ⟨h1,h2⟩
theorem rd0:zl [48]=some 0:=rd (by show (if (0:Int)<0 then [45] else []) ++ dec 0 ++ (if (1:Nat)=1 then [] else _)=_;rw [x8];rfl) (by show (dec 0).length<=_;rw [x8];decide) (by show (dec 1).length<=_;rw [ZZ];decide)
theorem rd1:zl [49]=some 1:=rd (by show (if (1:Int)<0 then [45] else []) ++ dec 1 ++ (if (1:Nat)=1 then [] else _)=_;rw [ZZ];rfl) (by show (dec 1).length<=_;rw [ZZ];decide) (by show (dec 1).length<=_;rw [ZZ];decide)
theorem rd2:zl [50]=some 2:=rd (by show (if (2:Int)<0 then [45] else []) ++ dec 2 ++ (if (1:Nat)=1 then [] else _)=_;rw [zgy];rfl) (by show (dec 2).length<=_;rw [zgy];decide) (by show (dec 1).length<=_;rw [ZZ];decide)
theorem rd3:zl [51]=some 3:=rd (by show (if (3:Int)<0 then [45] else []) ++ dec 3 ++ (if (1:Nat)=1 then [] else _)=_;rw [zfn];rfl) (by show (dec 3).length<=_;rw [zfn];decide) (by show (dec 1).length<=_;rw [ZZ];decide)
theorem rdm:zl [45,49]=some (-1):=rd (by show (if (-1:Int)<0 then [45] else []) ++ dec 1 ++ (if (1:Nat)=1 then [] else _)=_;rw [ZZ];rfl) (by show (dec 1).length<=_;rw [ZZ];decide) (by show (dec 1).length<=_;rw [ZZ];decide)
theorem zm8:yh 6=[54]:=by show (if (6:Int)<0 then [45] else []) ++ dec 6 ++ (if (1:Nat)=1 then [] else _)=_;rw [zk4];rfl
def qh:Rat:=mkRat 1 2
def qt:Rat:=mkRat 1 3
theorem rdh:zl [49,47,50]=some qh:=rd (by show (if (1:Int)<0 then [45] else []) ++ dec 1 ++ (if (2:Nat)=1 then [] else 47 :: dec 2)=_;rw [ZZ,zgy];rfl) (by show (dec 1).length<=_;rw [ZZ];decide) (by show (dec 2).length<=_;rw [zgy];decide)
theorem rdt:zl [49,47,51]=some qt:=rd (by show (if (1:Int)<0 then [45] else []) ++ dec 1 ++ (if (3:Nat)=1 then [] else 47 :: dec 3)=_;rw [ZZ,zfn];rfl) (by show (dec 1).length<=_;rw [ZZ];decide) (by show (dec 3).length<=_;rw [zfn];decide)
theorem zml:op2 (· + ·) [49,47,50] [49,47,51]=([53,47,54],0):=by
 unfold op2
 rw [rdh,rdt]
 have e:qh+qt=mkRat 5 6:=by decide+kernel
 show Yt (qh+qt)=_
 rw [e]
 unfold Yt
 rw [if_pos (by
  show (dec 5).length<=_/\(dec 6).length<=_
  rw [zmd,zk4]
  decide)]
 show ((if (5:Int)<0 then [45] else []) ++ dec 5 ++ (if (6:Nat)=1 then [] else 47 :: dec 6),(0:Int))=_
 rw [zmd,zk4]
 rfl
def zjw:List UInt8:=[49,32,120,32,60,61,32,51,10,45,49,32,120,32,60,61,32,48,10]
def zg3:List (List UInt8):=[[49,32,120,32,60,61,32,51],[45,49,32,120,32,60,61,32,48]]
def xm:List yv:=[⟨[⟨[120],[49]⟩],[51]⟩,⟨[⟨[120],[45,49]⟩],[48]⟩]
def yA:List zR:=[⟨[120],[50]⟩]
theorem Yv {q:Rat} (h1:dec q.num.natAbs=[49]\/dec q.num.natAbs=[48]\/dec q.num.natAbs=[50]\/dec q.num.natAbs=[51]) (h2:q.den=1):yP 12 q:=by
 refine ⟨?_,by rw [h2,ZZ];decide⟩
 rcases h1 with h | h | h | h<;>(rw [h];decide)
theorem one {p:Nat->Prop} (h:p 0):∀ i,i<1->p i:=by
 intro i hi
 have e:i=0:=by omega
 subst e
 exact h
theorem zk6:zj1 zjw zg3 xm:=by
 refine ⟨by decide,rfl,fun i hi=>?_,by decide,by decide,by decide⟩
 have hi:i<2:=hi
 rcases (show i=0\/i=1 by omega) with rfl | rfl
 . exact ⟨by decide,by decide,one (by decide),one (by decide),by decide,by decide,one (by show (zl [49]).isSome=true;rw [rd1];rfl),by show (zl [51]).isSome=true;rw [rd3];rfl,by decide,
    fun x hx=>by obtain rfl:=List.mem_singleton.1 hx;exact ⟨by unfold yb;decide,by unfold yb;decide⟩,by unfold yb;decide⟩
 . exact ⟨by decide,by decide,one (by decide),one (by decide),by decide,by decide,one (by show (zl [45,49]).isSome=true;rw [rdm];rfl),by show (zl [48]).isSome=true;rw [rd0];rfl,by decide,
    fun x hx=>by obtain rfl:=List.mem_singleton.1 hx;exact ⟨by unfold yb;decide,by unfold yb;decide⟩,by unfold yb;decide⟩
theorem zav {f:Nat->Int} (h:f 0=0):xl 1 f=0:=by
 apply xK.2
 intro k hk
 have e:k=0:=by omega
 subst e
 exact h
theorem zcn {l:List UInt8} {q:Rat} (h:zl l=some q) (h0:q≠0) (hs:yP 12 q):xH l=0:=by unfold xH;rw [h];simp only;rw [if_neg h0,if_pos hs]
theorem zdv {l:List UInt8} {q:Rat} (h:zl l=some q) (hs:yP 12 q):x7 l=0:=by unfold x7;rw [h];simp only;rw [if_pos hs]
theorem zg7 {c:List UInt8} (h:xH c=0):yF [⟨[120],c⟩]=0:=by
 unfold yF
 refine zav ?_
 unfold x9
 show (if xP [120]=false then _ else if xH c≠0 then _ else xd [120] [120] (decide (0=0)))=0
 rw [if_neg (by decide),if_neg (by rw [h];decide)]
 rfl
theorem sh1:yP 12 1:=Yv (.inl (by show dec 1=_;exact ZZ)) rfl
theorem shm:yP 12 (-1):=Yv (.inl (by show dec 1=_;exact ZZ)) rfl
theorem sh0:yP 12 0:=Yv (.inr (.inl (by show dec 0=_;exact x8))) rfl
theorem sh2:yP 12 2:=Yv (.inr (.inr (.inl (by show dec 2=_;exact zgy)))) rfl
theorem sh3:yP 12 3:=Yv (.inr (.inr (.inr (by show dec 3=_;exact zfn)))) rfl
theorem zjx {c d:List UInt8} (h:xH c=0) (k:x7 d=0):xf ⟨[⟨[120],c⟩],d⟩=0:=by
 unfold xf
 rw [if_neg (by rw [zg7 h];decide)]
 exact k
theorem zg2:Yk xm [120]:=by
 refine ⟨fun r hr=>?_,by decide,fun r hr t ht=>?_,⟨_,List.mem_cons_self ..,by decide⟩,by decide⟩
 . simp [xm] at hr
   rcases hr with rfl | rfl
   . exact zjx (zcn rd1 (by decide) sh1) (zdv rd3 sh3)
   . exact zjx (zcn rdm (by decide) shm) (zdv rd0 sh0)
 . simp [xm] at hr
   rcases hr with rfl | rfl
   all_goals
    simp at ht;subst ht
    rfl
theorem zkr:zdk yA [120]:=⟨zg7 (zcn rd2 (by decide) sh2),fun t ht=>by simp [yA] at ht;subst ht;rfl⟩
theorem q0_:qOf [48]=0:=by unfold qOf;rw [rd0];rfl
theorem q1_:qOf [49]=1:=by unfold qOf;rw [rd1];rfl
theorem q2_:qOf [50]=2:=by unfold qOf;rw [rd2];rfl
theorem q3_:qOf [51]=3:=by unfold qOf;rw [rd3];rfl
theorem qm_:qOf [45,49]= -1:=by unfold qOf;rw [rdm];rfl
theorem vP {z:Int} (h:z.natAbs<=100):Fit z:=by unfold Fit;have:=xJ (d:=z.natAbs) (by omega);omega
theorem ve {M:Nat} {q:Rat} (h:q.num.natAbs<=100) (h2:q.den<=100) (hM:1<=M):ZG M q:=by
 have h1:=xJ (d:=q.num.natAbs) (by omega)
 have h3:=xJ (d:=(q.den:Int).natAbs) (by omega)
 exact ⟨by omega,by omega⟩
theorem Ys {d:Int} {c:List UInt8} {q:Rat} (hd:d=1) (hq:qOf c=q) (h:q.den=1):xW d [⟨[120],c⟩] 1=1:=by
 show d*(Rat.divInt ((qOf c).den:Int) d).num=1
 rw [hq,h,hd]
 decide+kernel
theorem VS {b c:List UInt8} {p q:Rat} (hb:zl b=some p) (hc:zl c=some q) (h1:p.den=1) (h2:q.den=1) (h3:p.num.natAbs<=100) (h4:q.num.natAbs<=100):VL b [⟨[120],c⟩]:=by
 have hqb:qOf b=p:=by unfold qOf;rw [hb];rfl
 have hqc:qOf c=q:=by unfold qOf;rw [hc];rfl
 have hd:((qOf b).den:Int)=1:=by rw [hqb,h1];rfl
 refine ⟨by rw [hb];rfl,by rw [hqb];exact ve h3 (by omega) (by omega),fun t ht=>?_,fun n hn=>?_,fun n hn=>?_⟩
 . rw [List.mem_singleton] at ht
   subst ht;exact ⟨by show (zl c).isSome=true;rw [hc];rfl,by show ZG _ (qOf c);rw [hqc];exact ve h4 (by omega) (by omega)⟩
 . have e:n=0:=by simp at hn;omega
   subst e
   show len 4294967296 (Rat.divInt ((qOf c).den:Int) ((qOf b).den:Int)).num.natAbs<=_
   rw [hqc,h2,hd];have:(Rat.divInt ((1:Nat):Int) 1).num.natAbs=1:=by decide+kernel
   rw [this];have:=xJ (d:=1) (by omega)
   omega
 . have:n=0\/n=1:=by simp at hn;omega
   rcases this with rfl | rfl
   . show Fit ((qOf b).den:Int)/\((qOf b).den:Int)≠0
     rw [hd];exact ⟨vP (by decide),by decide⟩
   . rw [Ys hd hqc h2]
     exact ⟨vP (by decide),by decide⟩
theorem zcf:zar [[120]] [120]:=⟨by decide,fun i h h1=>absurd h1 (by
 have e:[[120]].idxOf ([120]:List UInt8)=0:=by decide
 rw [e];omega),fun i h h1=>by
 have e:i=0:=by simp at h;omega
 subst e
 have h2:¬ (([120]:List UInt8)< [120]):=by decide
 exact h2⟩
theorem sc0:yI ⟨[⟨[120],[49]⟩],[51]⟩=1:=by
 show xW ((qOf [51]).den:Int) [⟨[120],[49]⟩] 1=1
 exact Ys (by rw [q3_];rfl) q1_ rfl
theorem sc1:yI ⟨[⟨[120],[45,49]⟩],[48]⟩=1:=by
 show xW ((qOf [48]).den:Int) [⟨[120],[45,49]⟩] 1=1
 exact Ys (by rw [q0_];rfl) qm_ rfl
theorem sg_:xb yA=1:=by
 show xW ((qOf [48]).den:Int) [⟨[120],[50]⟩] 1=1
 exact Ys (by rw [q0_];rfl) q2_ rfl
def exC:Nat->Nat->Int
 | 0=>fun k=>if k=3 then 1 else if k=1 then -1 else if k=2 then 1 else if k=0 then 3 else 0
 | 1=>fun k=>if k=3 then 1 else if k=1 then 1 else if k=2 then -1 else if k=0 then 0 else 0
 | _=>fun _=>0
def exG:Nat->Int:=fun k=>(0+if (k:Int)=1 then 2 else 0)+if (k:Int)=2 then -2 else 0
def exT:ye:=⟨1,exC,fun i=>2*1+i,fun k=>if k<2*1 then k else 2*1+2⟩
def exA:ye:=⟨1,fun i k=>if i=2 then exG k else exC i k,fun i=>2*1+i,fun k=>if k<2*1 then k else 2*1+2⟩
def exU:ye:=exA.pivot 0 1
theorem zm1 {c:List UInt8}:Xl [[120]] [⟨[120],c⟩] 0=0:=by unfold Xl;rfl
theorem zjn {b c:List UInt8} {p q:Rat} {v z:Int} (hs:yI ⟨[⟨[120],c⟩],b⟩=1) (hb:qOf b=p) (hc:qOf c=q) (h1:xG p 1=z) (h2:xG q 1=v) (k:Nat):
 zii [[120]] ⟨[⟨[120],c⟩],b⟩ k=if k=3 then 1 else if k=1 then -v else if k=2 then v else if k=0 then z else 0:=by
 unfold zii
 rw [hs]
 show (if k=3 then 1 else (if k=1+2*Xl [[120]] [⟨[120],c⟩] 0 then -(xG (qOf c) 1) else if k=2+2*Xl [[120]] [⟨[120],c⟩] 0 then xG (qOf c) 1 else if k=0 then xG (qOf b) 1 else 0))=_
 rw [zm1,hb,hc,h1,h2]
theorem zht (i k:Nat):zlc xm [[120]] i k=exC i k:=by
 unfold zlc
 match i with
 | 0=>
   rw [if_pos (by decide)];exact zjn sc0 q3_ q1_ (z:=3) (v:=1) (by decide+kernel) (by decide+kernel) k
 | 1=>
   rw [if_pos (by decide)];exact zjn sc1 q0_ qm_ (z:=0) (v:= -1) (by decide+kernel) (by decide+kernel) k
 | i+2=>
   rw [if_neg (by show ¬ i+2<2;omega)]
   rfl
theorem VM:zhr xm [[120]]=exT:=by
 unfold zhr exT
 congr 1
 funext i k
 exact zht i k
theorem co_:ZC (xb yA) yA 0=2:=by
 unfold ZC
 rw [sg_]
 show xG (qOf [50]) 1=2
 rw [q2_]
 decide+kernel
theorem cnt0 (k:Nat):ZD exT 2 4 ((2*0:Nat):Int) 2 k=if (k:Int)=1 then 2 else 0:=by
 unfold ZD
 have e1:xa exT.basic ((2*0:Nat):Int) 2=none:=by decide
 have e2:xa exT.other ((2*0:Nat):Int) (4 - 1)=some 0:=by decide
 rw [e1,e2]
 rfl
theorem cnt1 (k:Nat):ZD exT 2 4 ((2*0+1:Nat):Int) (-2) k=if (k:Int)=2 then -2 else 0:=by
 unfold ZD
 have e1:xa exT.basic ((2*0+1:Nat):Int) 2=none:=by decide
 have e2:xa exT.other ((2*0+1:Nat):Int) (4 - 1)=some 1:=by decide
 rw [e1,e2]
 rfl
theorem zje (k:Nat):Xw exT [[120]] 2 4 (xb yA) yA 1 k=exG k:=by
 show 0+ZD exT 2 4 ((2*Xl [[120]] yA 0:Nat):Int) (ZC (xb yA) yA 0) k+ZD exT 2 4 ((2*Xl [[120]] yA 0+1:Nat):Int) (-(ZC (xb yA) yA 0)) k=exG k
 rw [co_,show Xl [[120]] yA 0=0 from zm1,cnt0,cnt1]
 rfl
theorem zhl:zla xm [[120]] yA=exA:=by
 unfold zla
 rw [VM]
 unfold ye.aimed exA
 congr 1
 funext i k
 show (if i=2 then Xw exT [[120]] 2 4 (xb yA) yA 1 k else exC i k)=_
 rw [zje]
theorem VN {T:ye} (h1:0<T.den) (h2:T.den.natAbs<=100) (h3:∀ i,i<3->∀ k,k<4->(T.cell i k).natAbs<=100):T.Fits 2 4:=⟨h1,vP h2,fun i k hi hk=>vP (h3 i (by omega) k hk)⟩
theorem zlv:zkp exT [[120]] 2 4 yA:=by
 refine ⟨VS rd0 rd2 rfl rfl (by decide) (by decide),fun t ht=>?_,fun t ht=>?_,fun t k ht hk=>?_,fun t k ht hk=>?_,fun u hu h=>?_⟩
 . simp [yA] at ht
   subst ht;exact zcf
 . have e:t=0:=by simp [yA] at ht;omega
   subst e;rw [co_];exact vP (by decide)
 . have e:t=0:=by simp [yA] at ht;omega
   subst e
   show len 4294967296 (0:Int).natAbs<=_
   rw [show (0:Int).natAbs=0 from rfl,zhu]
   omega
 . have e:t=0:=by simp [yA] at ht;omega
   subst e
   show len 4294967296 (0+ZD exT 2 4 ((2*Xl [[120]] yA 0:Nat):Int) (ZC (xb yA) yA 0) k).natAbs<=_
   rw [co_,show Xl [[120]] yA 0=0 from zm1,cnt0];have:(0+if (k:Int)=1 then (2:Int) else 0).natAbs<=2:=by split<;>decide
   have:=xJ (d:=(0+if (k:Int)=1 then (2:Int) else 0).natAbs) (by omega)
   omega
 . have:u=0\/u=1:=by simp at hu;omega
   rcases this with rfl | rfl<;>decide
theorem zl0:ZQ 2 4 4 (4:Int) 1 exA exU 0:=by
 refine .step exA exU 1 0 0 0 (by decide) (by decide) (by decide) (VN (by decide) (by decide) (by decide)) ?_
 exact .top exU (by decide)
theorem zna:zks xm [[120]] yA 1 exU:=by
 refine ⟨fun r hr=>?_,by decide,by decide,by decide,fun i hi=>?_,?_,?_,?_,?_,?_,fun i hi=>?_,fun i j hi hj=>?_,fun i hi=>?_,fun k hk=>?_,fun i hi=>?_⟩
 . simp [xm] at hr
   rcases hr with rfl | rfl
   . exact ⟨VS rd3 rd1 rfl rfl (by decide) (by decide),fun t ht=>by simp at ht;subst ht;exact zcf⟩
   . exact ⟨VS rd0 rdm rfl rfl (by decide) (by decide),fun t ht=>by simp at ht;subst ht;exact zcf⟩
 . rw [VM]
   have:i=0\/i=1:=by simp [xm] at hi;omega
   rcases this with rfl | rfl<;>decide
 . rw [VM];exact VN (by decide) (by decide) (by decide)
 . rw [VM];exact zlv
 . rw [zhl];exact VN (by decide) (by decide) (by decide)
 . rw [zhl];exact zl0
 . exact VN (by decide) (by decide) (by decide)
 . have:i=0\/i=1:=by simp [xm] at hi;omega
   rcases this with rfl | rfl
   . exact .inr ⟨0,by decide,by decide⟩
   . exact .inl (by decide)
 . have e:j=0:=by simp at hj;omega
   subst e;have:i=0\/i=1\/i=2:=by simp [xm] at hi;omega
   have h1:∀ i,i<3->(VF exU 1 i 0).num.natAbs<=100/\(VF exU 1 i 0).den<=100:=by decide+kernel
   have:=h1 i (by omega);exact ve this.1 this.2 (by omega)
 . have h1:∀ i,i<2->(Rat.divInt (exU.cell i 0) exU.den).num.natAbs<=100/\(Rat.divInt (exU.cell i 0) exU.den).den<=100:=by decide+kernel
   have:=h1 i hi;exact ve this.1 this.2 (by omega)
 . have h1:∀ k,k<3->exU.other k<=1000000:=by decide
   exact h1 k hk
 . have:i=0\/i=1:=by simp [xm] at hi;omega
   rcases this with rfl | rfl
   . show Fit (yI ⟨[⟨[120],[49]⟩],[51]⟩);rw [sc0];exact vP (by decide)
   . show Fit (yI ⟨[⟨[120],[45,49]⟩],[48]⟩);rw [sc1];exact vP (by decide)
theorem zim:Rat.divInt (exU.cell xm.length 0) (exU.den*xb yA)=6:=by
 rw [sg_]
 decide+kernel
theorem zjk:ZG 67108864 (VF exU 1 xm.length 0):=by
 have h1:(VF exU 1 2 0).num.natAbs<=100/\(VF exU 1 2 0).den<=100:=by decide+kernel
 exact ve h1.1 h1.2 (by omega)
theorem zed:∀ k,k<xm.length->ZG 67108864 (wtN exU 1 xm.length (zfb xm) (xb yA) (2*1+1) k):=by
 intro k hk
 have hs:∀ i,i<2->zfb xm i=1:=by
  intro i hi
  have:i=0\/i=1:=by omega
  rcases this with rfl | rfl
  . exact sc0
  . exact sc1
 have e:wtN exU 1 xm.length (zfb xm) (xb yA) (2*1+1) k=wtN exU 1 2 (fun _=>1) 1 3 k:=by
  rw [sg_]
  have hk2:k<2:=hk
  have h1:=hs k hk2
  unfold wtN wtN wtN wtN
  simp only [h1]
  rfl
 rw [e]
 have h1:∀ k,k<2->(wtN exU 1 2 (fun _=>1) 1 3 k).num.natAbs<=100/\(wtN exU 1 2 (fun _=>1) 1 3 k).den<=100:=by decide+kernel
 have:=h1 k hk
 exact ve this.1 this.2 (by omega)
end Go.Proofs.YtkmcmmcencdcpaaGreatDoor
