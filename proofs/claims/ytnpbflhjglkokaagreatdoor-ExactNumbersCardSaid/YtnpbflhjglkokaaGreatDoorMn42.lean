/- Parts of the proof: memory, numbers, walks of the functions that are called. -/
import Derived.Test.YtnpbflhjglkokaaGreatDoorMn33
import Derived.Test.YtnpbflhjglkokaaGreatDoorMn41
set_option linter.unusedVariables false
set_option linter.unusedSimpArgs false
namespace Go.Proofs.YtnpbflhjglkokaaGreatDoor
open Go.RowKit
theorem Y9:dec 1=[49]:=by simp [dec,digs];rfl
theorem zii:dec 2=[50]:=by simp [dec,digs];rfl
theorem zjz:dec 3=[51]:=by simp [dec,digs];rfl
theorem zo3:dec 5=[53]:=by simp [dec,digs];rfl
theorem znd:dec 6=[54]:=by simp [dec,digs];rfl
theorem rd {l:List UInt8} {q:Rat} (h:zM q=l) (h1:(dec q.num.natAbs).length<=50000) (h2:(dec q.den).length<=50000):zp l=some q:=by rw [<- h];exact zbc ⟨h1,h2⟩
theorem rd0:zp [48]=some 0:=rd (by show (if (0:Int)<0 then [45] else []) ++ dec 0 ++ (if (1:Nat)=1 then [] else _)=_;rw [x7];rfl) (by show (dec 0).length<=_;rw [x7];decide) (by show (dec 1).length<=_;rw [Y9];decide)
theorem rd1:zp [49]=some 1:=rd (by show (if (1:Int)<0 then [45] else []) ++ dec 1 ++ (if (1:Nat)=1 then [] else _)=_;rw [Y9];rfl) (by show (dec 1).length<=_;rw [Y9];decide) (by show (dec 1).length<=_;rw [Y9];decide)
theorem rd2:zp [50]=some 2:=rd (by show (if (2:Int)<0 then [45] else []) ++ dec 2 ++ (if (1:Nat)=1 then [] else _)=_;rw [zii];rfl) (by show (dec 2).length<=_;rw [zii];decide) (by show (dec 1).length<=_;rw [Y9];decide)
theorem rd3:zp [51]=some 3:=rd (by show (if (3:Int)<0 then [45] else []) ++ dec 3 ++ (if (1:Nat)=1 then [] else _)=_;rw [zjz];rfl) (by show (dec 3).length<=_;rw [zjz];decide) (by show (dec 1).length<=_;rw [Y9];decide)
theorem rdm:zp [45,49]=some (-1):=rd (by show (if (-1:Int)<0 then [45] else []) ++ dec 1 ++ (if (1:Nat)=1 then [] else _)=_;rw [Y9];rfl) (by show (dec 1).length<=_;rw [Y9];decide) (by show (dec 1).length<=_;rw [Y9];decide)
theorem zp4:zM 6=[54]:=by show (if (6:Int)<0 then [45] else []) ++ dec 6 ++ (if (1:Nat)=1 then [] else _)=_;rw [znd];rfl
def qh:Rat:=mkRat 1 2
def qt:Rat:=mkRat 1 3
theorem rdh:zp [49,47,50]=some qh:=rd (by show (if (1:Int)<0 then [45] else []) ++ dec 1 ++ (if (2:Nat)=1 then [] else 47 :: dec 2)=_;rw [Y9,zii];rfl) (by show (dec 1).length<=_;rw [Y9];decide) (by show (dec 2).length<=_;rw [zii];decide)
theorem rdt:zp [49,47,51]=some qt:=rd (by show (if (1:Int)<0 then [45] else []) ++ dec 1 ++ (if (3:Nat)=1 then [] else 47 :: dec 3)=_;rw [Y9,zjz];rfl) (by show (dec 1).length<=_;rw [Y9];decide) (by show (dec 3).length<=_;rw [zjz];decide)
theorem zoc:op2 (· + ·) [49,47,50] [49,47,51]=([53,47,54],0):=by
 unfold op2
 rw [rdh,rdt]
 have e:qh+qt=mkRat 5 6:=by decide+kernel
 show YV (qh+qt)=_
 rw [e]
 unfold YV
 rw [if_pos (by
  show (dec 5).length<=_/\(dec 6).length<=_
  rw [zo3,znd]
  decide)]
 show ((if (5:Int)<0 then [45] else []) ++ dec 5 ++ (if (6:Nat)=1 then [] else 47 :: dec 6),(0:Int))=_
 rw [zo3,znd]
 rfl
def zl5:List UInt8:=[49,32,120,32,60,61,32,51,10,45,49,32,120,32,60,61,32,48,10]
def zim:List (List UInt8):=[[49,32,120,32,60,61,32,51],[45,49,32,120,32,60,61,32,48]]
def xz:List vp:=[⟨[⟨[120],[49]⟩],[51]⟩,⟨[⟨[120],[45,49]⟩],[48]⟩]
def yG:List yt:=[⟨[120],[50]⟩]
theorem YT {q:Rat} (h1:dec q.num.natAbs=[49]\/dec q.num.natAbs=[48]\/dec q.num.natAbs=[50]\/dec q.num.natAbs=[51]) (h2:q.den=1):yM 12 q:=by
 refine ⟨?_,by rw [h2,Y9];decide⟩
 rcases h1 with h | h | h | h<;>(rw [h];decide)
theorem one {p:Nat->Prop} (h:p 0):∀ i,i<1->p i:=by
 intro i hi
 have e:i=0:=by omega
 subst e
 exact h
theorem znc:zl2 zl5 zim xz:=by
 refine ⟨by decide,rfl,fun i hi=>?_,by decide,by decide,by decide⟩
 have hi:i<2:=hi
 rcases (show i=0\/i=1 by omega) with rfl | rfl
 . exact ⟨by decide,by decide,one (by decide),one (by decide),by decide,by decide,one (by show (zp [49]).isSome=true;rw [rd1];rfl),by show (zp [51]).isSome=true;rw [rd3];rfl,by decide,
    fun x hx=>by obtain rfl:=List.mem_singleton.1 hx;exact ⟨by unfold yF;decide,by unfold yF;decide⟩,by unfold yF;decide⟩
 . exact ⟨by decide,by decide,one (by decide),one (by decide),by decide,by decide,one (by show (zp [45,49]).isSome=true;rw [rdm];rfl),by show (zp [48]).isSome=true;rw [rd0];rfl,by decide,
    fun x hx=>by obtain rfl:=List.mem_singleton.1 hx;exact ⟨by unfold yF;decide,by unfold yF;decide⟩,by unfold yF;decide⟩
theorem zcd {f:Nat->Int} (h:f 0=0):xP 1 f=0:=by
 apply Zv.2
 intro k hk
 have e:k=0:=by omega
 subst e
 exact h
theorem zfh {l:List UInt8} {q:Rat} (h:zp l=some q) (h0:q≠0) (hs:yM 12 q):vu l=0:=by unfold vu;rw [h];simp only;rw [if_neg h0,if_pos hs]
theorem zf3 {l:List UInt8} {q:Rat} (h:zp l=some q) (hs:yM 12 q):xN l=0:=by unfold xN;rw [h];simp only;rw [if_pos hs]
theorem zh3 {c:List UInt8} (h:vu c=0):yU [⟨[120],c⟩]=0:=by
 unfold yU
 refine zcd ?_
 unfold xU
 show (if vS [120]=false then _ else if vu c≠0 then _ else xm [120] [120] (decide (0=0)))=0
 rw [if_neg (by decide),if_neg (by rw [h];decide)]
 rfl
theorem sh1:yM 12 1:=YT (.inl (by show dec 1=_;exact Y9)) rfl
theorem shm:yM 12 (-1):=YT (.inl (by show dec 1=_;exact Y9)) rfl
theorem sh0:yM 12 0:=YT (.inr (.inl (by show dec 0=_;exact x7))) rfl
theorem sh2:yM 12 2:=YT (.inr (.inr (.inl (by show dec 2=_;exact zii)))) rfl
theorem sh3:yM 12 3:=YT (.inr (.inr (.inr (by show dec 3=_;exact zjz)))) rfl
theorem zme {c d:List UInt8} (h:vu c=0) (k:xN d=0):xH ⟨[⟨[120],c⟩],d⟩=0:=by
 unfold xH
 rw [if_neg (by rw [zh3 h];decide)]
 exact k
theorem zhy:YO xz [120]:=by
 refine ⟨fun r hr=>?_,by decide,fun r hr t ht=>?_,⟨_,List.mem_cons_self ..,by decide⟩,by decide⟩
 . simp [xz] at hr
   rcases hr with rfl | rfl
   . exact zme (zfh rd1 (by decide) sh1) (zf3 rd3 sh3)
   . exact zme (zfh rdm (by decide) shm) (zf3 rd0 sh0)
 . simp [xz] at hr
   rcases hr with rfl | rfl
   all_goals
    simp at ht;subst ht
    rfl
theorem zmu:zei yG [120]:=⟨zh3 (zfh rd2 (by decide) sh2),fun t ht=>by simp [yG] at ht;subst ht;rfl⟩
theorem q0_:qOf [48]=0:=by unfold qOf;rw [rd0];rfl
theorem q1_:qOf [49]=1:=by unfold qOf;rw [rd1];rfl
theorem q2_:qOf [50]=2:=by unfold qOf;rw [rd2];rfl
theorem q3_:qOf [51]=3:=by unfold qOf;rw [rd3];rfl
theorem qm_:qOf [45,49]= -1:=by unfold qOf;rw [rdm];rfl
theorem Zn {z:Int} (h:z.natAbs<=100):Fit z:=by unfold Fit;have:=xT (d:=z.natAbs) (by omega);omega
theorem vz {M:Nat} {q:Rat} (h:q.num.natAbs<=100) (h2:q.den<=100) (hM:1<=M):Yi M q:=by
 have h1:=xT (d:=q.num.natAbs) (by omega)
 have h3:=xT (d:=(q.den:Int).natAbs) (by omega)
 exact ⟨by omega,by omega⟩
theorem Xe {d:Int} {c:List UInt8} {q:Rat} (hd:d=1) (hq:qOf c=q) (h:q.den=1):vq d [⟨[120],c⟩] 1=1:=by
 show d*(Rat.divInt ((qOf c).den:Int) d).num=1
 rw [hq,h,hd]
 decide+kernel
theorem za8 {b c:List UInt8} {p q:Rat} (hb:zp b=some p) (hc:zp c=some q) (h1:p.den=1) (h2:q.den=1) (h3:p.num.natAbs<=100) (h4:q.num.natAbs<=100):zbx b [⟨[120],c⟩]:=by
 have hqb:qOf b=p:=by unfold qOf;rw [hb];rfl
 have hqc:qOf c=q:=by unfold qOf;rw [hc];rfl
 have hd:((qOf b).den:Int)=1:=by rw [hqb,h1];rfl
 refine ⟨by rw [hb];rfl,by rw [hqb];exact vz h3 (by omega) (by omega),fun t ht=>?_,fun n hn=>?_,fun n hn=>?_⟩
 . rw [List.mem_singleton] at ht
   subst ht;exact ⟨by show (zp c).isSome=true;rw [hc];rfl,by show Yi _ (qOf c);rw [hqc];exact vz h4 (by omega) (by omega)⟩
 . have e:n=0:=by simp at hn;omega
   subst e
   show len 4294967296 (Rat.divInt ((qOf c).den:Int) ((qOf b).den:Int)).num.natAbs<=_
   rw [hqc,h2,hd];have:(Rat.divInt ((1:Nat):Int) 1).num.natAbs=1:=by decide+kernel
   rw [this];have:=xT (d:=1) (by omega)
   omega
 . have:n=0\/n=1:=by simp at hn;omega
   rcases this with rfl | rfl
   . show Fit ((qOf b).den:Int)/\((qOf b).den:Int)≠0
     rw [hd];exact ⟨Zn (by decide),by decide⟩
   . rw [Xe hd hqc h2]
     exact ⟨Zn (by decide),by decide⟩
theorem zes:zds [[120]] [120]:=⟨by decide,fun i h h1=>absurd h1 (by
 have e:[[120]].idxOf ([120]:List UInt8)=0:=by decide
 rw [e];omega),fun i h h1=>by
 have e:i=0:=by simp at h;omega
 subst e
 have h2:¬ (([120]:List UInt8)< [120]):=by decide
 exact h2⟩
theorem sc0:yP ⟨[⟨[120],[49]⟩],[51]⟩=1:=by
 show vq ((qOf [51]).den:Int) [⟨[120],[49]⟩] 1=1
 exact Xe (by rw [q3_];rfl) q1_ rfl
theorem sc1:yP ⟨[⟨[120],[45,49]⟩],[48]⟩=1:=by
 show vq ((qOf [48]).den:Int) [⟨[120],[45,49]⟩] 1=1
 exact Xe (by rw [q0_];rfl) qm_ rfl
theorem sg_:xf yG=1:=by
 show vq ((qOf [48]).den:Int) [⟨[120],[50]⟩] 1=1
 exact Xe (by rw [q0_];rfl) q2_ rfl
def exC:Nat->Nat->Int
 | 0=>fun k=>if k=3 then 1 else if k=1 then -1 else if k=2 then 1 else if k=0 then 3 else 0
 | 1=>fun k=>if k=3 then 1 else if k=1 then 1 else if k=2 then -1 else if k=0 then 0 else 0
 | _=>fun _=>0
def exG:Nat->Int:=fun k=>(0+if (k:Int)=1 then 2 else 0)+if (k:Int)=2 then -2 else 0
def exT:yj:=⟨1,exC,fun i=>2*1+i,fun k=>if k<2*1 then k else 2*1+2⟩
def exA:yj:=⟨1,fun i k=>if i=2 then exG k else exC i k,fun i=>2*1+i,fun k=>if k<2*1 then k else 2*1+2⟩
def exU:yj:=exA.pivot 0 1
theorem zpu {c:List UInt8}:XM [[120]] [⟨[120],c⟩] 0=0:=by unfold XM;rfl
theorem zmf {b c:List UInt8} {p q:Rat} {v z:Int} (hs:yP ⟨[⟨[120],c⟩],b⟩=1) (hb:qOf b=p) (hc:qOf c=q) (h1:xV p 1=z) (h2:xV q 1=v) (k:Nat):
 zk6 [[120]] ⟨[⟨[120],c⟩],b⟩ k=if k=3 then 1 else if k=1 then -v else if k=2 then v else if k=0 then z else 0:=by
 unfold zk6
 rw [hs]
 show (if k=3 then 1 else (if k=1+2*XM [[120]] [⟨[120],c⟩] 0 then -(xV (qOf c) 1) else if k=2+2*XM [[120]] [⟨[120],c⟩] 0 then xV (qOf c) 1 else if k=0 then xV (qOf b) 1 else 0))=_
 rw [zpu,hb,hc,h1,h2]
theorem zkg (i k:Nat):znu xz [[120]] i k=exC i k:=by
 unfold znu
 match i with
 | 0=>
   rw [if_pos (by decide)];exact zmf sc0 q3_ q1_ (z:=3) (v:=1) (by decide+kernel) (by decide+kernel) k
 | 1=>
   rw [if_pos (by decide)];exact zmf sc1 q0_ qm_ (z:=0) (v:= -1) (by decide+kernel) (by decide+kernel) k
 | i+2=>
   rw [if_neg (by show ¬ i+2<2;omega)]
   rfl
theorem zbe:zka xz [[120]]=exT:=by
 unfold zka exT
 congr 1
 funext i k
 exact zkg i k
theorem co_:Yo (xf yG) yG 0=2:=by
 unfold Yo
 rw [sg_]
 show xV (qOf [50]) 1=2
 rw [q2_]
 decide+kernel
theorem cnt0 (k:Nat):Yl exT 2 4 ((2*0:Nat):Int) 2 k=if (k:Int)=1 then 2 else 0:=by
 unfold Yl
 have e1:xj exT.basic ((2*0:Nat):Int) 2=none:=by decide
 have e2:xj exT.other ((2*0:Nat):Int) (4 - 1)=some 0:=by decide
 rw [e1,e2]
 rfl
theorem cnt1 (k:Nat):Yl exT 2 4 ((2*0+1:Nat):Int) (-2) k=if (k:Int)=2 then -2 else 0:=by
 unfold Yl
 have e1:xj exT.basic ((2*0+1:Nat):Int) 2=none:=by decide
 have e2:xj exT.other ((2*0+1:Nat):Int) (4 - 1)=some 1:=by decide
 rw [e1,e2]
 rfl
theorem zki (k:Nat):Ve exT [[120]] 2 4 (xf yG) yG 1 k=exG k:=by
 show 0+Yl exT 2 4 ((2*XM [[120]] yG 0:Nat):Int) (Yo (xf yG) yG 0) k+Yl exT 2 4 ((2*XM [[120]] yG 0+1:Nat):Int) (-(Yo (xf yG) yG 0)) k=exG k
 rw [co_,show XM [[120]] yG 0=0 from zpu,cnt0,cnt1]
 rfl
theorem zif:znr xz [[120]] yG=exA:=by
 unfold znr
 rw [zbe]
 unfold yj.aimed exA
 congr 1
 funext i k
 show (if i=2 then Ve exT [[120]] 2 4 (xf yG) yG 1 k else exC i k)=_
 rw [zki]
theorem zbn {T:yj} (h1:0<T.den) (h2:T.den.natAbs<=100) (h3:∀ i,i<3->∀ k,k<4->(T.cell i k).natAbs<=100):T.Fits 2 4:=⟨h1,Zn h2,fun i k hi hk=>Zn (h3 i (by omega) k hk)⟩
theorem zo9:zmt exT [[120]] 2 4 yG:=by
 refine ⟨za8 rd0 rd2 rfl rfl (by decide) (by decide),fun t ht=>?_,fun t ht=>?_,fun t k ht hk=>?_,fun t k ht hk=>?_,fun u hu h=>?_⟩
 . simp [yG] at ht
   subst ht;exact zes
 . have e:t=0:=by simp [yG] at ht;omega
   subst e;rw [co_];exact Zn (by decide)
 . have e:t=0:=by simp [yG] at ht;omega
   subst e
   show len 4294967296 (0:Int).natAbs<=_
   rw [show (0:Int).natAbs=0 from rfl,Xl]
   omega
 . have e:t=0:=by simp [yG] at ht;omega
   subst e
   show len 4294967296 (0+Yl exT 2 4 ((2*XM [[120]] yG 0:Nat):Int) (Yo (xf yG) yG 0) k).natAbs<=_
   rw [co_,show XM [[120]] yG 0=0 from zpu,cnt0];have:(0+if (k:Int)=1 then (2:Int) else 0).natAbs<=2:=by split<;>decide
   have:=xT (d:=(0+if (k:Int)=1 then (2:Int) else 0).natAbs) (by omega)
   omega
 . have:u=0\/u=1:=by simp at hu;omega
   rcases this with rfl | rfl<;>decide
theorem zoa:Ys 2 4 4 (4:Int) 1 exA exU 0:=by
 refine .step exA exU 1 0 0 0 (by decide) (by decide) (by decide) (zbn (by decide) (by decide) (by decide)) ?_
 exact .top exU (by decide)
theorem zp1:zm7 xz [[120]] yG 1 exU:=by
 refine ⟨fun r hr=>?_,by decide,by decide,by decide,fun i hi=>?_,?_,?_,?_,?_,?_,fun i hi=>?_,fun i j hi hj=>?_,fun i hi=>?_,fun k hk=>?_,fun i hi=>?_⟩
 . simp [xz] at hr
   rcases hr with rfl | rfl
   . exact ⟨za8 rd3 rd1 rfl rfl (by decide) (by decide),fun t ht=>by simp at ht;subst ht;exact zes⟩
   . exact ⟨za8 rd0 rdm rfl rfl (by decide) (by decide),fun t ht=>by simp at ht;subst ht;exact zes⟩
 . rw [zbe]
   have:i=0\/i=1:=by simp [xz] at hi;omega
   rcases this with rfl | rfl<;>decide
 . rw [zbe];exact zbn (by decide) (by decide) (by decide)
 . rw [zbe];exact zo9
 . rw [zif];exact zbn (by decide) (by decide) (by decide)
 . rw [zif];exact zoa
 . exact zbn (by decide) (by decide) (by decide)
 . have:i=0\/i=1:=by simp [xz] at hi;omega
   rcases this with rfl | rfl
   . exact .inr ⟨0,by decide,by decide⟩
   . exact .inl (by decide)
 . have e:j=0:=by simp at hj;omega
   subst e;have:i=0\/i=1\/i=2:=by simp [xz] at hi;omega
   have h1:∀ i,i<3->(zan exU 1 i 0).num.natAbs<=100/\(zan exU 1 i 0).den<=100:=by decide+kernel
   have:=h1 i (by omega);exact vz this.1 this.2 (by omega)
 . have h1:∀ i,i<2->(Rat.divInt (exU.cell i 0) exU.den).num.natAbs<=100/\(Rat.divInt (exU.cell i 0) exU.den).den<=100:=by decide+kernel
   have:=h1 i hi;exact vz this.1 this.2 (by omega)
 . have h1:∀ k,k<3->exU.other k<=1000000:=by decide
   exact h1 k hk
 . have:i=0\/i=1:=by simp [xz] at hi;omega
   rcases this with rfl | rfl
   . show Fit (yP ⟨[⟨[120],[49]⟩],[51]⟩);rw [sc0];exact Zn (by decide)
   . show Fit (yP ⟨[⟨[120],[45,49]⟩],[48]⟩);rw [sc1];exact Zn (by decide)
theorem zlf:Rat.divInt (exU.cell xz.length 0) (exU.den*xf yG)=6:=by
 rw [sg_]
 decide+kernel
theorem zlx:Yi 67108864 (zan exU 1 xz.length 0):=by
 have h1:(zan exU 1 2 0).num.natAbs<=100/\(zan exU 1 2 0).den<=100:=by decide+kernel
 exact vz h1.1 h1.2 (by omega)
theorem zgp:∀ k,k<xz.length->Yi 67108864 (wtN exU 1 xz.length (zhn xz) (xf yG) (2*1+1) k):=by
 intro k hk
 have hs:∀ i,i<2->zhn xz i=1:=by
  intro i hi
  have:i=0\/i=1:=by omega
  rcases this with rfl | rfl
  . exact sc0
  . exact sc1
 have e:wtN exU 1 xz.length (zhn xz) (xf yG) (2*1+1) k=wtN exU 1 2 (fun _=>1) 1 3 k:=by
  rw [sg_]
  have hk2:k<2:=hk
  have h1:=hs k hk2
  unfold wtN wtN wtN wtN
  simp only [h1]
  rfl
 rw [e]
 have h1:∀ k,k<2->(wtN exU 1 2 (fun _=>1) 1 3 k).num.natAbs<=100/\(wtN exU 1 2 (fun _=>1) 1 3 k).den<=100:=by decide+kernel
 have:=h1 k hk
 exact vz this.1 this.2 (by omega)
end Go.Proofs.YtnpbflhjglkokaaGreatDoor
