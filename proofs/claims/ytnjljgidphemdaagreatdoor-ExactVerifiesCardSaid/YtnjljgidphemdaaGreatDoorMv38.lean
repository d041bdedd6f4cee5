/- Parts of the proof. -/
import Derived.Test.YtnjljgidphemdaaGreatDoorMv30
import Derived.Test.YtnjljgidphemdaaGreatDoorMv37
import Derived.Test.YtnjljgidphemdaaGreatDoorMv25
set_option linter.all false
namespace Go.Proofs.YtnjljgidphemdaaGreatDoor
open Proofs.Tryz Go.RowKit
theorem VH:dec 1=[49]:=by simp [dec,digs];rfl
theorem zpp:dec 2=[50]:=by simp [dec,digs];rfl
theorem zsd:dec 3=[51]:=by simp [dec,digs];rfl
theorem zxt:dec 5=[53]:=by simp [dec,digs];rfl
theorem zw0:dec 6=[54]:=by simp [dec,digs];rfl
theorem rd {l:List UInt8} {q:Rat} (h:zI q=l) (h1:(dec q.num.natAbs).length<=50000) (h2:(dec q.den).length<=50000):zl l=some q:=by rw [<- h];exact Yj ⟨h1,h2⟩
theorem rd0:zl [48]=some 0:=rd (by show (if (0:Int)<0 then [45] else []) ++ dec 0 ++ (if (1:Nat)=1 then [] else _)=_;rw [vG];rfl) (by show (dec 0).length<=_;rw [vG];decide) (by show (dec 1).length<=_;rw [VH];decide)
theorem rd1:zl [49]=some 1:=rd (by show (if (1:Int)<0 then [45] else []) ++ dec 1 ++ (if (1:Nat)=1 then [] else _)=_;rw [VH];rfl) (by show (dec 1).length<=_;rw [VH];decide) (by show (dec 1).length<=_;rw [VH];decide)
theorem rd2:zl [50]=some 2:=rd (by show (if (2:Int)<0 then [45] else []) ++ dec 2 ++ (if (1:Nat)=1 then [] else _)=_;rw [zpp];rfl) (by show (dec 2).length<=_;rw [zpp];decide) (by show (dec 1).length<=_;rw [VH];decide)
theorem rd3:zl [51]=some 3:=rd (by show (if (3:Int)<0 then [45] else []) ++ dec 3 ++ (if (1:Nat)=1 then [] else _)=_;rw [zsd];rfl) (by show (dec 3).length<=_;rw [zsd];decide) (by show (dec 1).length<=_;rw [VH];decide)
theorem rdm:zl [45,49]=some (-1):=rd (by show (if (-1:Int)<0 then [45] else []) ++ dec 1 ++ (if (1:Nat)=1 then [] else _)=_;rw [VH];rfl) (by show (dec 1).length<=_;rw [VH];decide) (by show (dec 1).length<=_;rw [VH];decide)
theorem zzd:zI 6=[54]:=by show (if (6:Int)<0 then [45] else []) ++ dec 6 ++ (if (1:Nat)=1 then [] else _)=_;rw [zw0];rfl
def qh:Rat:=mkRat 1 2
def qt:Rat:=mkRat 1 3
theorem rdh:zl [49,47,50]=some qh:=rd (by show (if (1:Int)<0 then [45] else []) ++ dec 1 ++ (if (2:Nat)=1 then [] else 47 :: dec 2)=_;rw [VH,zpp];rfl) (by show (dec 1).length<=_;rw [VH];decide) (by show (dec 2).length<=_;rw [zpp];decide)
theorem rdt:zl [49,47,51]=some qt:=rd (by show (if (1:Int)<0 then [45] else []) ++ dec 1 ++ (if (3:Nat)=1 then [] else 47 :: dec 3)=_;rw [VH,zsd];rfl) (by show (dec 1).length<=_;rw [VH];decide) (by show (dec 3).length<=_;rw [zsd];decide)
theorem zyr:op2 (· + ·) [49,47,50] [49,47,51]=([53,47,54],0):=by
 unfold op2
 rw [rdh,rdt]
 have e:qh+qt=mkRat 5 6:=by decide+kernel
 show zab (qh+qt)=_
 rw [e]
 unfold zab
 rw [if_pos (by
  show (dec 5).length<=_/\(dec 6).length<=_
  rw [zxt,zw0]
  decide)]
 show ((if (5:Int)<0 then [45] else []) ++ dec 5 ++ (if (6:Nat)=1 then [] else 47 :: dec 6),(0:Int))=_
 rw [zxt,zw0]
 rfl
def zu9:List UInt8:=[49,32,120,32,60,61,32,51,10,45,49,32,120,32,60,61,32,48,10]
def zo9:List (List UInt8):=[[49,32,120,32,60,61,32,51],[45,49,32,120,32,60,61,32,48]]
def vQ:List zU:=[⟨[⟨[120],[49]⟩],[51]⟩,⟨[⟨[120],[45,49]⟩],[48]⟩]
def x8:List zu:=[⟨[120],[50]⟩]
theorem zaz {q:Rat} (h1:dec q.num.natAbs=[49]\/dec q.num.natAbs=[48]\/dec q.num.natAbs=[50]\/dec q.num.natAbs=[51]) (h2:q.den=1):yG 12 q:=by
 refine ⟨?_,by rw [h2,VH];decide⟩
 rcases h1 with h | h | h | h<;>(rw [h];decide)
theorem one {p:Nat->Prop} (h:p 0):∀ i,i<1->p i:=by
 intro i hi
 have e:i=0:=by omega
 subst e
 exact h
theorem zvw:zu0 zu9 zo9 vQ:=by
 refine ⟨by decide,rfl,fun i hi=>?_,by decide,by decide,by decide⟩
 have hi:i<2:=hi
 rcases (show i=0\/i=1 by omega) with rfl | rfl
 . exact ⟨by decide,by decide,one (by decide),one (by decide),by decide,by decide,one (by show (zl [49]).isSome=true;rw [rd1];rfl),by show (zl [51]).isSome=true;rw [rd3];rfl,by decide,
    fun x hx=>by obtain rfl:=List.mem_singleton.1 hx;exact ⟨by unfold zS;decide,by unfold zS;decide⟩,by unfold zS;decide⟩
 . exact ⟨by decide,by decide,one (by decide),one (by decide),by decide,by decide,one (by show (zl [45,49]).isSome=true;rw [rdm];rfl),by show (zl [48]).isSome=true;rw [rd0];rfl,by decide,
    fun x hx=>by obtain rfl:=List.mem_singleton.1 hx;exact ⟨by unfold zS;decide,by unfold zS;decide⟩,by unfold zS;decide⟩
theorem zh2 {f:Nat->Int} (h:f 0=0):yM 1 f=0:=by
 apply yX.2
 intro k b
 have e:k=0:=by omega
 subst e
 exact h
theorem zjy {l:List UInt8} {q:Rat} (h:zl l=some q) (h0:q≠0) (hs:yG 12 q):xd l=0:=by unfold xd;rw [h];simp only;rw [if_neg h0,if_pos hs]
theorem zm2 {l:List UInt8} {q:Rat} (h:zl l=some q) (hs:yG 12 q):yD l=0:=by unfold yD;rw [h];simp only;rw [if_pos hs]
theorem zph {c:List UInt8} (h:xd c=0):zX [⟨[120],c⟩]=0:=by
 unfold zX
 refine zh2 ?_
 unfold y6
 show (if vf [120]=false then _ else if xd c≠0 then _ else yi [120] [120] (decide (0=0)))=0
 rw [if_neg (by decide),if_neg (by rw [h];decide)]
 rfl
theorem sh1:yG 12 1:=zaz (.inl (by show dec 1=_;exact VH)) rfl
theorem shm:yG 12 (-1):=zaz (.inl (by show dec 1=_;exact VH)) rfl
theorem sh0:yG 12 0:=zaz (.inr (.inl (by show dec 0=_;exact vG))) rfl
theorem sh2:yG 12 2:=zaz (.inr (.inr (.inl (by show dec 2=_;exact zpp)))) rfl
theorem sh3:yG 12 3:=zaz (.inr (.inr (.inr (by show dec 3=_;exact zsd)))) rfl
theorem zuz {c d:List UInt8} (h:xd c=0) (k:yD d=0):yF ⟨[⟨[120],c⟩],d⟩=0:=by
 unfold yF
 rw [if_neg (by rw [zph h];decide)]
 exact k
theorem zq2:VS vQ [120]:=by
 refine ⟨fun r hr=>?_,by decide,fun r hr t ht=>?_,⟨_,uP ..,by decide⟩,by decide⟩
 . simp [vQ] at hr
   rcases hr with rfl | rfl
   . exact zuz (zjy rd1 (by decide) sh1) (zm2 rd3 sh3)
   . exact zuz (zjy rdm (by decide) shm) (zm2 rd0 sh0)
 simp [vQ] at hr
 rcases hr with rfl | rfl
 all_goals
  simp at ht;subst ht
  rfl
theorem zvx:zkk x8 [120]:=⟨zph (zjy rd2 (by decide) sh2),fun t ht=>by simp [x8] at ht;subst ht;rfl⟩
theorem q0_:qOf [48]=0:=by unfold qOf;rw [rd0];rfl
theorem q1_:qOf [49]=1:=by unfold qOf;rw [rd1];rfl
theorem q2_:qOf [50]=2:=by unfold qOf;rw [rd2];rfl
theorem q3_:qOf [51]=3:=by unfold qOf;rw [rd3];rfl
theorem qm_:qOf [45,49]= -1:=by unfold qOf;rw [rdm];rfl
theorem Yz {z:Int} (h:z.natAbs<=100):Fit z:=by unfold Fit;have:=Zv (d:=z.natAbs) (by omega);omega
theorem ZE {M:Nat} {q:Rat} (h:q.num.natAbs<=100) (h2:q.den<=100) (hM:1<=M):Zu M q:=by
 have b:=Zv (d:=q.num.natAbs) (by omega)
 have e:=Zv (d:=(q.den:Int).natAbs) (by omega)
 exact ⟨by omega,by omega⟩
theorem za8 {d:Int} {c:List UInt8} {q:Rat} (hd:d=1) (hq:qOf c=q) (h:q.den=1):ZB d [⟨[120],c⟩] 1=1:=by
 show d*(Rat.divInt ((qOf c).den:Int) d).num=1
 rw [hq,h,hd]
 decide+kernel
theorem zgv {b c:List UInt8} {p q:Rat} (hb:zl b=some p) (hc:zl c=some q) (h1:p.den=1) (h2:q.den=1) (h3:p.num.natAbs<=100) (h4:q.num.natAbs<=100):zgi b [⟨[120],c⟩]:=by
 have l:qOf b=p:=by unfold qOf;rw [hb];rfl
 have j:qOf c=q:=by unfold qOf;rw [hc];rfl
 have hd:((qOf b).den:Int)=1:=by rw [l,h1];rfl
 refine ⟨by rw [hb];rfl,by rw [l];exact ZE h3 (by omega) (by omega),fun t ht=>?_,fun n hn=>?_,fun n hn=>?_⟩
 . rw [uM] at ht
   subst ht;exact ⟨by show (zl c).isSome=true;rw [hc];rfl,by show Zu _ (qOf c);rw [j];exact ZE h4 (by omega) (by omega)⟩
 . have e:n=0:=by simp at hn;omega
   subst e
   show len 4294967296 (Rat.divInt ((qOf c).den:Int) ((qOf b).den:Int)).num.natAbs<=_
   rw [j,h2,hd];have:(Rat.divInt ((1:Nat):Int) 1).num.natAbs=1:=by decide+kernel
   rw [this];have:=Zv (d:=1) (by omega)
   omega
 . have:n=0\/n=1:=by simp at hn;omega
   rcases this with rfl | rfl
   . show Fit ((qOf b).den:Int)/\((qOf b).den:Int)≠0
     rw [hd];exact ⟨Yz (by decide),by decide⟩
   . rw [za8 hd j h2]
     exact ⟨Yz (by decide),by decide⟩
theorem zkh:zjo [[120]] [120]:=⟨by decide,fun i h h1=>absurd h1 (by
 have e:[[120]].idxOf ([120]:List UInt8)=0:=by decide
 rw [e];omega),fun i h h1=>by
 have e:i=0:=by simp at h;omega
 subst e
 have b:¬ (([120]:List UInt8)< [120]):=by decide
 exact b⟩
theorem sc0:xP ⟨[⟨[120],[49]⟩],[51]⟩=1:=by
 show ZB ((qOf [51]).den:Int) [⟨[120],[49]⟩] 1=1
 exact za8 (by rw [q3_];rfl) q1_ rfl
theorem sc1:xP ⟨[⟨[120],[45,49]⟩],[48]⟩=1:=by
 show ZB ((qOf [48]).den:Int) [⟨[120],[45,49]⟩] 1=1
 exact za8 (by rw [q0_];rfl) qm_ rfl
theorem sg_:vE x8=1:=by
 show ZB ((qOf [48]).den:Int) [⟨[120],[50]⟩] 1=1
 exact za8 (by rw [q0_];rfl) q2_ rfl
def exC:Nat->Nat->Int
 | 0=>fun k=>if k=3 then 1 else if k=1 then -1 else if k=2 then 1 else if k=0 then 3 else 0
 | 1=>fun k=>if k=3 then 1 else if k=1 then 1 else if k=2 then -1 else if k=0 then 0 else 0
 | _=>fun _=>0
def exG:Nat->Int:=fun k=>(0+if (k:Int)=1 then 2 else 0)+if (k:Int)=2 then -2 else 0
def exT:yE:=⟨1,exC,fun i=>2*1+i,fun k=>if k<2*1 then k else 2*1+2⟩
def exA:yE:=⟨1,fun i k=>if i=2 then exG k else exC i k,fun i=>2*1+i,fun k=>if k<2*1 then k else 2*1+2⟩
def exU:yE:=exA.pivot 0 1
theorem zzc {c:List UInt8}:zb8 [[120]] [⟨[120],c⟩] 0=0:=by unfold zb8;rfl
theorem zu5 {b c:List UInt8} {p q:Rat} {v z:Int} (hs:xP ⟨[⟨[120],c⟩],b⟩=1) (hb:qOf b=p) (hc:qOf c=q) (h1:Zt p 1=z) (h2:Zt q 1=v) (k:Nat):
 ztg [[120]] ⟨[⟨[120],c⟩],b⟩ k=if k=3 then 1 else if k=1 then -v else if k=2 then v else if k=0 then z else 0:=by
 unfold ztg
 rw [hs]
 show (if k=3 then 1 else (if k=1+2*zb8 [[120]] [⟨[120],c⟩] 0 then -(Zt (qOf c) 1) else if k=2+2*zb8 [[120]] [⟨[120],c⟩] 0 then Zt (qOf c) 1 else if k=0 then Zt (qOf b) 1 else 0))=_
 rw [zzc,hb,hc,h1,h2]
theorem zui (i k:Nat):zwo vQ [[120]] i k=exC i k:=by
 unfold zwo
 match i with
 | 0=>
   rw [if_pos (by decide)];exact zu5 sc0 q3_ q1_ (z:=3) (v:=1) (by decide+kernel) (by decide+kernel) k
 | 1=>
   rw [if_pos (by decide)];exact zu5 sc1 q0_ qm_ (z:=0) (v:= -1) (by decide+kernel) (by decide+kernel) k
 | i+2=>
   rw [if_neg (by show ¬ i+2<2;omega)]
   rfl
theorem zgn:zsk vQ [[120]]=exT:=by
 unfold zsk exT
 congr 1
 funext i k
 exact zui i k
theorem co_:XS (vE x8) x8 0=2:=by
 unfold XS
 rw [sg_]
 show Zt (qOf [50]) 1=2
 rw [q2_]
 decide+kernel
theorem cnt0 (k:Nat):XU exT 2 4 ((2*0:Nat):Int) 2 k=if (k:Int)=1 then 2 else 0:=by
 unfold XU
 have e:vF exT.basic ((2*0:Nat):Int) 2=none:=by decide
 have b:vF exT.other ((2*0:Nat):Int) (4 - 1)=some 0:=by decide
 rw [e,b]
 rfl
theorem cnt1 (k:Nat):XU exT 2 4 ((2*0+1:Nat):Int) (-2) k=if (k:Int)=2 then -2 else 0:=by
 unfold XU
 have e:vF exT.basic ((2*0+1:Nat):Int) 2=none:=by decide
 have b:vF exT.other ((2*0+1:Nat):Int) (4 - 1)=some 1:=by decide
 rw [e,b]
 rfl
theorem ztc (k:Nat):zct exT [[120]] 2 4 (vE x8) x8 1 k=exG k:=by
 show 0+XU exT 2 4 ((2*zb8 [[120]] x8 0:Nat):Int) (XS (vE x8) x8 0) k+XU exT 2 4 ((2*zb8 [[120]] x8 0+1:Nat):Int) (-(XS (vE x8) x8 0)) k=exG k
 rw [co_,show zb8 [[120]] x8 0=0 from zzc,cnt0,cnt1]
 rfl
theorem zq1:zwz vQ [[120]] x8=exA:=by
 unfold zwz
 rw [zgn]
 unfold yE.aimed exA
 congr 1
 funext i k
 show (if i=2 then zct exT [[120]] 2 4 (vE x8) x8 1 k else exC i k)=_
 rw [ztc]
theorem zgx {T:yE} (h1:0<T.den) (h2:T.den.natAbs<=100) (h3:∀ i,i<3->∀ k,k<4->(T.cell i k).natAbs<=100):T.Fits 2 4:=⟨h1,Yz h2,fun i k hi hk=>Yz (h3 i (by omega) k hk)⟩
theorem zys:zwd exT [[120]] 2 4 x8:=by
 refine ⟨zgv rd0 rd2 rfl rfl (by decide) (by decide),fun t ht=>?_,fun t ht=>?_,fun t k ht hk=>?_,fun t k ht hk=>?_,fun u hu h=>?_⟩
 . simp [x8] at ht
   subst ht;exact zkh
 . have e:t=0:=by simp [x8] at ht;omega
   subst e;rw [co_];exact Yz (by decide)
 . have e:t=0:=by simp [x8] at ht;omega
   subst e
   show len 4294967296 (0:Int).natAbs<=_
   rw [show (0:Int).natAbs=0 from rfl,VD]
   omega
 . have e:t=0:=by simp [x8] at ht;omega
   subst e
   show len 4294967296 (0+XU exT 2 4 ((2*zb8 [[120]] x8 0:Nat):Int) (XS (vE x8) x8 0) k).natAbs<=_
   rw [co_,show zb8 [[120]] x8 0=0 from zzc,cnt0];have:(0+if (k:Int)=1 then (2:Int) else 0).natAbs<=2:=by split<;>decide
   have:=Zv (d:=(0+if (k:Int)=1 then (2:Int) else 0).natAbs) (by omega)
   omega
 . have:u=0\/u=1:=by simp at hu;omega
   rcases this with rfl | rfl<;>decide
theorem zyx:Vq 2 4 4 (4:Int) 1 exA exU 0:=by
 refine .step exA exU 1 0 0 0 (by decide) (by decide) (by decide) (zgx (by decide) (by decide) (by decide)) ?_
 exact .top exU (by decide)
theorem zzb:zv2 vQ [[120]] x8 1 exU:=by
 refine ⟨fun r hr=>?_,by decide,by decide,by decide,fun i hi=>?_,?_,?_,?_,?_,?_,fun i hi=>?_,fun i j hi hj=>?_,fun i hi=>?_,fun k hk=>?_,fun i hi=>?_⟩
 . simp [vQ] at hr
   rcases hr with rfl | rfl
   . exact ⟨zgv rd3 rd1 rfl rfl (by decide) (by decide),fun t ht=>by simp at ht;subst ht;exact zkh⟩
   . exact ⟨zgv rd0 rdm rfl rfl (by decide) (by decide),fun t ht=>by simp at ht;subst ht;exact zkh⟩
 . rw [zgn]
   have:i=0\/i=1:=by simp [vQ] at hi;omega
   rcases this with rfl | rfl<;>decide
 . rw [zgn];exact zgx (by decide) (by decide) (by decide)
 . rw [zgn];exact zys
 . rw [zq1];exact zgx (by decide) (by decide) (by decide)
 . rw [zq1];exact zyx
 . exact zgx (by decide) (by decide) (by decide)
 . have:i=0\/i=1:=by simp [vQ] at hi;omega
   rcases this with rfl | rfl
   . exact .inr ⟨0,by decide,by decide⟩
   . exact .inl (by decide)
 . have e:j=0:=by simp at hj;omega
   subst e;have:i=0\/i=1\/i=2:=by simp [vQ] at hi;omega
   have b:∀ i,i<3->(zfj exU 1 i 0).num.natAbs<=100/\(zfj exU 1 i 0).den<=100:=by decide+kernel
   have:=b i (by omega);exact ZE this.1 this.2 (by omega)
 . have b:∀ i,i<2->(Rat.divInt (exU.cell i 0) exU.den).num.natAbs<=100/\(Rat.divInt (exU.cell i 0) exU.den).den<=100:=by decide+kernel
   have:=b i hi;exact ZE this.1 this.2 (by omega)
 . have b:∀ k,k<3->exU.other k<=1000000:=by decide
   exact b k hk
 . have:i=0\/i=1:=by simp [vQ] at hi;omega
   rcases this with rfl | rfl
   . show Fit (xP ⟨[⟨[120],[49]⟩],[51]⟩);rw [sc0];exact Yz (by decide)
   . show Fit (xP ⟨[⟨[120],[45,49]⟩],[48]⟩);rw [sc1];exact Yz (by decide)
theorem ztd:Rat.divInt (exU.cell vQ.length 0) (exU.den*vE x8)=6:=by
 rw [sg_]
 decide+kernel
theorem zso:Zu 67108864 (zfj exU 1 vQ.length 0):=by
 have b:(zfj exU 1 2 0).num.natAbs<=100/\(zfj exU 1 2 0).den<=100:=by decide+kernel
 exact ZE b.1 b.2 (by omega)
theorem zns:∀ k,k<vQ.length->Zu 67108864 (wtN exU 1 vQ.length (zoz vQ) (vE x8) (2*1+1) k):=by
 intro k j
 have m:∀ i,i<2->zoz vQ i=1:=by
  intro i hi
  have:i=0\/i=1:=by omega
  rcases this with rfl | rfl
  . exact sc0
  . exact sc1
 have e:wtN exU 1 vQ.length (zoz vQ) (vE x8) (2*1+1) k=wtN exU 1 2 (fun _=>1) 1 3 k:=by
  rw [sg_]
  have l:k<2:=j
  have b:=m k l
  unfold wtN wtN wtN wtN
  simp only [b]
  rfl
 rw [e]
 have b:∀ k,k<2->(wtN exU 1 2 (fun _=>1) 1 3 k).num.natAbs<=100/\(wtN exU 1 2 (fun _=>1) 1 3 k).den<=100:=by decide+kernel
 have:=b k j
 exact ZE this.1 this.2 (by omega)
end Go.Proofs.YtnjljgidphemdaaGreatDoor
