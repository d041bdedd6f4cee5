/- Plain: the chapter's example of rows and a goal: what it says, and the way to its answer. · Plain: the chapter's example: its first table, the pivot, and the answer. -/
import Derived.Test.YtnmkalocbfdecaaGreatDoorMg26
import Derived.Test.YtnmkalocbfdecaaGreatDoorMg35
set_option linter.unusedVariables false
set_option linter.unusedSimpArgs false
namespace Go.Proofs.YtnmkalocbfdecaaGreatDoor
open Go.RowKit
theorem dec1' :dec 1=[49]:=by simp [dec,digs];rfl
theorem dec2' :dec 2=[50]:=by simp [dec,digs];rfl
theorem dec3' :dec 3=[51]:=by simp [dec,digs];rfl
theorem dec5' :dec 5=[53]:=by simp [dec,digs];rfl
theorem dec6' :dec 6=[54]:=by simp [dec,digs];rfl
theorem rd {l:List UInt8} {q:Rat} (h:fracText q=l) (h1:(dec q.num.natAbs).length ≤ 50000) (h2:(dec q.den).length ≤ 50000):readFrac l=some q:=by rw [← h];exact readFrac_text ⟨h1,h2⟩
theorem rd0:readFrac [48]=some 0:=rd (by show (if (0:Int)<0 then [45] else []) ++ dec 0 ++ (if (1:Nat)=1 then [] else _)=_;rw [dec_zero];rfl) (by show (dec 0).length ≤ _;rw [dec_zero];decide) (by show (dec 1).length ≤ _;rw [dec1'];decide)
theorem rd1:readFrac [49]=some 1:=rd (by show (if (1:Int)<0 then [45] else []) ++ dec 1 ++ (if (1:Nat)=1 then [] else _)=_;rw [dec1'];rfl) (by show (dec 1).length ≤ _;rw [dec1'];decide) (by show (dec 1).length ≤ _;rw [dec1'];decide)
theorem rd2:readFrac [50]=some 2:=rd (by show (if (2:Int)<0 then [45] else []) ++ dec 2 ++ (if (1:Nat)=1 then [] else _)=_;rw [dec2'];rfl) (by show (dec 2).length ≤ _;rw [dec2'];decide) (by show (dec 1).length ≤ _;rw [dec1'];decide)
theorem rd3:readFrac [51]=some 3:=rd (by show (if (3:Int)<0 then [45] else []) ++ dec 3 ++ (if (1:Nat)=1 then [] else _)=_;rw [dec3'];rfl) (by show (dec 3).length ≤ _;rw [dec3'];decide) (by show (dec 1).length ≤ _;rw [dec1'];decide)
theorem rdm:readFrac [45,49]=some (-1):=rd (by show (if (-1:Int)<0 then [45] else []) ++ dec 1 ++ (if (1:Nat)=1 then [] else _)=_;rw [dec1'];rfl) (by show (dec 1).length ≤ _;rw [dec1'];decide) (by show (dec 1).length ≤ _;rw [dec1'];decide)
theorem text6:fracText 6=[54]:=by show (if (6:Int)<0 then [45] else []) ++ dec 6 ++ (if (1:Nat)=1 then [] else _)=_;rw [dec6'];rfl
def qh:Rat:=mkRat 1 2
def qt:Rat:=mkRat 1 3
theorem rdh:readFrac [49,47,50]=some qh:=rd (by show (if (1:Int)<0 then [45] else []) ++ dec 1 ++ (if (2:Nat)=1 then [] else 47 :: dec 2)=_;rw [dec1',dec2'];rfl) (by show (dec 1).length ≤ _;rw [dec1'];decide) (by show (dec 2).length ≤ _;rw [dec2'];decide)
theorem rdt:readFrac [49,47,51]=some qt:=rd (by show (if (1:Int)<0 then [45] else []) ++ dec 1 ++ (if (3:Nat)=1 then [] else 47 :: dec 3)=_;rw [dec1',dec3'];rfl) (by show (dec 1).length ≤ _;rw [dec1'];decide) (by show (dec 3).length ≤ _;rw [dec3'];decide)
theorem ex_sum:op2 (· + ·) [49,47,50] [49,47,51]=([53,47,54],0):=by
 unfold op2
 rw [rdh,rdt]
 have e:qh+qt=mkRat 5 6:=by decide+kernel
 show toldOf (qh+qt)=_
 rw [e]
 unfold toldOf
 rw [if_pos (by
  show (dec 5).length ≤ _ ∧ (dec 6).length ≤ _
  rw [dec5',dec6']
  decide)]
 show ((if (5:Int)<0 then [45] else []) ++ dec 5 ++ (if (6:Nat)=1 then [] else 47 :: dec 6),(0:Int))=_
 rw [dec5',dec6']
 rfl
def exText:List UInt8:=[49,32,120,32,60,61,32,51,10,45,49,32,120,32,60,61,32,48,10]
def exLines:List (List UInt8):=[[49,32,120,32,60,61,32,51],[45,49,32,120,32,60,61,32,48]]
def exRows:List ERow:=[⟨[⟨[120],[49]⟩],[51]⟩,⟨[⟨[120],[45,49]⟩],[48]⟩]
def exGoal:List ETerm:=[⟨[120],[50]⟩]
theorem short_of {q:Rat} (h1:dec q.num.natAbs=[49] ∨ dec q.num.natAbs=[48] ∨ dec q.num.natAbs=[50] ∨ dec q.num.natAbs=[51]) (h2:q.den=1):Short 12 q:=by
 refine ⟨?_,by rw [h2,dec1'];decide⟩
 rcases h1 with h | h | h | h<;>(rw [h];decide)
theorem one {p:Nat → Prop} (h:p 0):∀ i,i<1 → p i:=by
 intro i hi
 have e:i=0:=by omega
 subst e
 exact h
theorem ex_text:TextOk exText exLines exRows:=by
 refine ⟨by decide,rfl,fun i hi=>?_,by decide,by decide,by decide⟩
 have hi:i<2:=hi
 rcases (show i=0 ∨ i=1 by omega) with rfl | rfl
 · exact ⟨by decide,by decide,one (by decide),one (by decide),by decide,by decide,one (by show (readFrac [49]).isSome=true;rw [rd1];rfl),by show (readFrac [51]).isSome=true;rw [rd3];rfl,by decide,
    fun x hx=>by obtain rfl:=List.mem_singleton.1 hx;exact ⟨by unfold SmallT;decide,by unfold SmallT;decide⟩,by unfold SmallT;decide⟩
 · exact ⟨by decide,by decide,one (by decide),one (by decide),by decide,by decide,one (by show (readFrac [45,49]).isSome=true;rw [rdm];rfl),by show (readFrac [48]).isSome=true;rw [rd0];rfl,by decide,
    fun x hx=>by obtain rfl:=List.mem_singleton.1 hx;exact ⟨by unfold SmallT;decide,by unfold SmallT;decide⟩,by unfold SmallT;decide⟩
theorem firstErr_one {f:Nat → Int} (h:f 0=0):firstErr 1 f=0:=by
 apply firstErr_all.2
 intro k hk
 have e:k=0:=by omega
 subst e
 exact h
theorem coef_ok {l:List UInt8} {q:Rat} (h:readFrac l=some q) (h0:q≠0) (hs:Short 12 q):coefErr l=0:=by unfold coefErr;rw [h];simp only;rw [if_neg h0,if_pos hs]
theorem input_ok {l:List UInt8} {q:Rat} (h:readFrac l=some q) (hs:Short 12 q):inputErr l=0:=by unfold inputErr;rw [h];simp only;rw [if_pos hs]
theorem term_ok {c:List UInt8} (h:coefErr c=0):termsErr [⟨[120],c⟩]=0:=by
 unfold termsErr
 refine firstErr_one ?_
 unfold termErr
 show (if isName [120]=false then _ else if coefErr c≠0 then _ else behindErr [120] [120] (decide (0=0)))=0
 rw [if_neg (by decide),if_neg (by rw [h];decide)]
 rfl
theorem sh1:Short 12 1:=short_of (.inl (by show dec 1=_;exact dec1')) rfl
theorem shm:Short 12 (-1):=short_of (.inl (by show dec 1=_;exact dec1')) rfl
theorem sh0:Short 12 0:=short_of (.inr (.inl (by show dec 0=_;exact dec_zero))) rfl
theorem sh2:Short 12 2:=short_of (.inr (.inr (.inl (by show dec 2=_;exact dec2')))) rfl
theorem sh3:Short 12 3:=short_of (.inr (.inr (.inr (by show dec 3=_;exact dec3')))) rfl
theorem row_ok {c d:List UInt8} (h:coefErr c=0) (k:inputErr d=0):rowErr ⟨[⟨[120],c⟩],d⟩=0:=by
 unfold rowErr
 rw [if_neg (by rw [term_ok h];decide)]
 exact k
theorem ex_rows:OneRows exRows [120]:=by
 refine ⟨fun r hr=>?_,by decide,fun r hr t ht=>?_,⟨_,List.mem_cons_self ..,by decide⟩,by decide⟩
 · simp [exRows] at hr
   rcases hr with rfl | rfl
   · exact row_ok (coef_ok rd1 (by decide) sh1) (input_ok rd3 sh3)
   · exact row_ok (coef_ok rdm (by decide) shm) (input_ok rd0 sh0)
 · simp [exRows] at hr
   rcases hr with rfl | rfl
   all_goals
    simp at ht
    subst ht
    rfl
theorem ex_goal:OneGoal exGoal [120]:=⟨term_ok (coef_ok rd2 (by decide) sh2),fun t ht=>by simp [exGoal] at ht;subst ht;rfl⟩
end Go.Proofs.YtnmkalocbfdecaaGreatDoor
namespace Go.Proofs.YtnmkalocbfdecaaGreatDoor
open Go.RowKit
theorem q0_:qOf [48]=0:=by unfold qOf;rw [rd0];rfl
theorem q1_:qOf [49]=1:=by unfold qOf;rw [rd1];rfl
theorem q2_:qOf [50]=2:=by unfold qOf;rw [rd2];rfl
theorem q3_:qOf [51]=3:=by unfold qOf;rw [rd3];rfl
theorem qm_:qOf [45,49]= -1:=by unfold qOf;rw [rdm];rfl
theorem fit_small {z:Int} (h:z.natAbs ≤ 100):Fit z:=by unfold Fit;have:=len_lt_base (d:=z.natAbs) (by omega);omega
theorem rlen_small {M:Nat} {q:Rat} (h:q.num.natAbs ≤ 100) (h2:q.den ≤ 100) (hM:1 ≤ M):RLen M q:=by
 have h1:=len_lt_base (d:=q.num.natAbs) (by omega)
 have h3:=len_lt_base (d:=(q.den:Int).natAbs) (by omega)
 exact ⟨by omega,by omega⟩
theorem scale_one {d:Int} {c:List UInt8} {q:Rat} (hd:d=1) (hq:qOf c=q) (h:q.den=1):scaleN d [⟨[120],c⟩] 1=1:=by
 show d*(Rat.divInt ((qOf c).den:Int) d).num=1
 rw [hq,h,hd]
 decide+kernel
theorem scale_ok {b c:List UInt8} {p q:Rat} (hb:readFrac b=some p) (hc:readFrac c=some q) (h1:p.den=1) (h2:q.den=1) (h3:p.num.natAbs ≤ 100) (h4:q.num.natAbs ≤ 100):ScaleOk b [⟨[120],c⟩]:=by
 have hqb:qOf b=p:=by unfold qOf;rw [hb];rfl
 have hqc:qOf c=q:=by unfold qOf;rw [hc];rfl
 have hd:((qOf b).den:Int)=1:=by rw [hqb,h1];rfl
 refine ⟨by rw [hb];rfl,by rw [hqb];exact rlen_small h3 (by omega) (by omega),fun t ht=>?_,fun n hn=>?_,fun n hn=>?_⟩
 · rw [List.mem_singleton] at ht
   subst ht
   exact ⟨by show (readFrac c).isSome=true;rw [hc];rfl,by show RLen _ (qOf c);rw [hqc];exact rlen_small h4 (by omega) (by omega)⟩
 · have e:n=0:=by simp at hn;omega
   subst e
   show len 4294967296 (Rat.divInt ((qOf c).den:Int) ((qOf b).den:Int)).num.natAbs ≤ _
   rw [hqc,h2,hd]
   have:(Rat.divInt ((1:Nat):Int) 1).num.natAbs=1:=by decide+kernel
   rw [this]
   have:=len_lt_base (d:=1) (by omega)
   omega
 · have:n=0 ∨ n=1:=by simp at hn;omega
   rcases this with rfl | rfl
   · show Fit ((qOf b).den:Int) ∧ ((qOf b).den:Int)≠0
     rw [hd]
     exact ⟨fit_small (by decide),by decide⟩
   · rw [scale_one hd hqc h2]
     exact ⟨fit_small (by decide),by decide⟩
theorem name_ok:NameOk [[120]] [120]:=⟨by decide,fun i h h1=>absurd h1 (by
 have e:[[120]].idxOf ([120]:List UInt8)=0:=by decide
 rw [e];omega),fun i h h1=>by
 have e:i=0:=by simp at h;omega
 subst e
 have h2:¬ (([120]:List UInt8)< [120]):=by decide
 exact h2⟩
theorem sc0:scaleOf ⟨[⟨[120],[49]⟩],[51]⟩=1:=by
 show scaleN ((qOf [51]).den:Int) [⟨[120],[49]⟩] 1=1
 exact scale_one (by rw [q3_];rfl) q1_ rfl
theorem sc1:scaleOf ⟨[⟨[120],[45,49]⟩],[48]⟩=1:=by
 show scaleN ((qOf [48]).den:Int) [⟨[120],[45,49]⟩] 1=1
 exact scale_one (by rw [q0_];rfl) qm_ rfl
theorem sg_:goalS exGoal=1:=by
 show scaleN ((qOf [48]).den:Int) [⟨[120],[50]⟩] 1=1
 exact scale_one (by rw [q0_];rfl) q2_ rfl
def exC:Nat → Nat → Int
 | 0=>fun k=>if k=3 then 1 else if k=1 then -1 else if k=2 then 1 else if k=0 then 3 else 0
 | 1=>fun k=>if k=3 then 1 else if k=1 then 1 else if k=2 then -1 else if k=0 then 0 else 0
 | _=>fun _=>0
def exG:Nat → Int:=fun k=>(0+if (k:Int)=1 then 2 else 0)+if (k:Int)=2 then -2 else 0
def exT:Dict:=⟨1,exC,fun i=>2*1+i,fun k=>if k<2*1 then k else 2*1+2⟩
def exA:Dict:=⟨1,fun i k=>if i=2 then exG k else exC i k,fun i=>2*1+i,fun k=>if k<2*1 then k else 2*1+2⟩
def exU:Dict:=exA.pivot 0 1
theorem pos_ {c:List UInt8}:posN [[120]] [⟨[120],c⟩] 0=0:=by unfold posN;rfl
theorem row_ex {b c:List UInt8} {p q:Rat} {v z:Int} (hs:scaleOf ⟨[⟨[120],c⟩],b⟩=1) (hb:qOf b=p) (hc:qOf c=q) (h1:timesOf p 1=z) (h2:timesOf q 1=v) (k:Nat):
 rowOf [[120]] ⟨[⟨[120],c⟩],b⟩ k=if k=3 then 1 else if k=1 then -v else if k=2 then v else if k=0 then z else 0:=by
 unfold rowOf
 rw [hs]
 show (if k=3 then 1 else (if k=1+2*posN [[120]] [⟨[120],c⟩] 0 then -(timesOf (qOf c) 1) else if k=2+2*posN [[120]] [⟨[120],c⟩] 0 then timesOf (qOf c) 1 else if k=0 then timesOf (qOf b) 1 else 0))=_
 rw [pos_,hb,hc,h1,h2]
theorem ex_cells (i k:Nat):begC exRows [[120]] i k=exC i k:=by
 unfold begC
 match i with
 | 0=>
   rw [if_pos (by decide)]
   exact row_ex sc0 q3_ q1_ (z:=3) (v:=1) (by decide+kernel) (by decide+kernel) k
 | 1=>
   rw [if_pos (by decide)]
   exact row_ex sc1 q0_ qm_ (z:=0) (v:= -1) (by decide+kernel) (by decide+kernel) k
 | i+2=>
   rw [if_neg (by show ¬ i+2<2;omega)]
   rfl
theorem ex_begT:begT exRows [[120]]=exT:=by
 unfold begT exT
 congr 1
 funext i k
 exact ex_cells i k
theorem co_:coefN (goalS exGoal) exGoal 0=2:=by
 unfold coefN
 rw [sg_]
 show timesOf (qOf [50]) 1=2
 rw [q2_]
 decide+kernel
theorem cnt0 (k:Nat):cntOf exT 2 4 ((2*0:Nat):Int) 2 k=if (k:Int)=1 then 2 else 0:=by
 unfold cntOf
 have e1:firstIx exT.basic ((2*0:Nat):Int) 2=none:=by decide
 have e2:firstIx exT.other ((2*0:Nat):Int) (4 - 1)=some 0:=by decide
 rw [e1,e2]
 rfl
theorem cnt1 (k:Nat):cntOf exT 2 4 ((2*0+1:Nat):Int) (-2) k=if (k:Int)=2 then -2 else 0:=by
 unfold cntOf
 have e1:firstIx exT.basic ((2*0+1:Nat):Int) 2=none:=by decide
 have e2:firstIx exT.other ((2*0+1:Nat):Int) (4 - 1)=some 1:=by decide
 rw [e1,e2]
 rfl
theorem ex_goalN (k:Nat):goalN exT [[120]] 2 4 (goalS exGoal) exGoal 1 k=exG k:=by
 show 0+cntOf exT 2 4 ((2*posN [[120]] exGoal 0:Nat):Int) (coefN (goalS exGoal) exGoal 0) k+cntOf exT 2 4 ((2*posN [[120]] exGoal 0+1:Nat):Int) (-(coefN (goalS exGoal) exGoal 0)) k=exG k
 rw [co_,show posN [[120]] exGoal 0=0 from pos_,cnt0,cnt1]
 rfl
theorem ex_aimT:aimT exRows [[120]] exGoal=exA:=by
 unfold aimT
 rw [ex_begT]
 unfold Dict.aimed exA
 congr 1
 funext i k
 show (if i=2 then goalN exT [[120]] 2 4 (goalS exGoal) exGoal 1 k else exC i k)=_
 rw [ex_goalN]
theorem fits_of {T:Dict} (h1:0<T.den) (h2:T.den.natAbs ≤ 100) (h3:∀ i,i<3 → ∀ k,k<4 → (T.cell i k).natAbs ≤ 100):T.Fits 2 4:=⟨h1,fit_small h2,fun i k hi hk=>fit_small (h3 i (by omega) k hk)⟩
theorem ex_aim:AimOk exT [[120]] 2 4 exGoal:=by
 refine ⟨scale_ok rd0 rd2 rfl rfl (by decide) (by decide),fun t ht=>?_,fun t ht=>?_,fun t k ht hk=>?_,fun t k ht hk=>?_,fun u hu h=>?_⟩
 · simp [exGoal] at ht
   subst ht
   exact name_ok
 · have e:t=0:=by simp [exGoal] at ht;omega
   subst e
   rw [co_]
   exact fit_small (by decide)
 · have e:t=0:=by simp [exGoal] at ht;omega
   subst e
   show len 4294967296 (0:Int).natAbs ≤ _
   rw [show (0:Int).natAbs=0 from rfl,len_zero]
   omega
 · have e:t=0:=by simp [exGoal] at ht;omega
   subst e
   show len 4294967296 (0+cntOf exT 2 4 ((2*posN [[120]] exGoal 0:Nat):Int) (coefN (goalS exGoal) exGoal 0) k).natAbs ≤ _
   rw [co_,show posN [[120]] exGoal 0=0 from pos_,cnt0]
   have:(0+if (k:Int)=1 then (2:Int) else 0).natAbs ≤ 2:=by split<;>decide
   have:=len_lt_base (d:=(0+if (k:Int)=1 then (2:Int) else 0).natAbs) (by omega)
   omega
 · have:u=0 ∨ u=1:=by simp at hu;omega
   rcases this with rfl | rfl<;>decide
theorem ex_way:ClimbsN 2 4 4 (4:Int) 1 exA exU 0:=by
 refine .step exA exU 1 0 0 0 (by decide) (by decide) (by decide) (fits_of (by decide) (by decide) (by decide)) ?_
 exact .top exU (by decide)
theorem ex_ok:PrgOk exRows [[120]] exGoal 1 exU:=by
 refine ⟨fun r hr=>?_,by decide,by decide,by decide,fun i hi=>?_,?_,?_,?_,?_,?_,fun i hi=>?_,fun i j hi hj=>?_,fun i hi=>?_,fun k hk=>?_,fun i hi=>?_⟩
 · simp [exRows] at hr
   rcases hr with rfl | rfl
   · exact ⟨scale_ok rd3 rd1 rfl rfl (by decide) (by decide),fun t ht=>by simp at ht;subst ht;exact name_ok⟩
   · exact ⟨scale_ok rd0 rdm rfl rfl (by decide) (by decide),fun t ht=>by simp at ht;subst ht;exact name_ok⟩
 · rw [ex_begT]
   have:i=0 ∨ i=1:=by simp [exRows] at hi;omega
   rcases this with rfl | rfl<;>decide
 · rw [ex_begT];exact fits_of (by decide) (by decide) (by decide)
 · rw [ex_begT];exact ex_aim
 · rw [ex_aimT];exact fits_of (by decide) (by decide) (by decide)
 · rw [ex_aimT];exact ex_way
 · exact fits_of (by decide) (by decide) (by decide)
 · have:i=0 ∨ i=1:=by simp [exRows] at hi;omega
   rcases this with rfl | rfl
   · exact .inr ⟨0,by decide,by decide⟩
   · exact .inl (by decide)
 · have e:j=0:=by simp at hj;omega
   subst e
   have:i=0 ∨ i=1 ∨ i=2:=by simp [exRows] at hi;omega
   have h1:∀ i,i<3 → (vecN exU 1 i 0).num.natAbs ≤ 100 ∧ (vecN exU 1 i 0).den ≤ 100:=by decide+kernel
   have:=h1 i (by omega)
   exact rlen_small this.1 this.2 (by omega)
 · have h1:∀ i,i<2 → (Rat.divInt (exU.cell i 0) exU.den).num.natAbs ≤ 100 ∧ (Rat.divInt (exU.cell i 0) exU.den).den ≤ 100:=by decide+kernel
   have:=h1 i hi
   exact rlen_small this.1 this.2 (by omega)
 · have h1:∀ k,k<3 → exU.other k ≤ 1000000:=by decide
   exact h1 k hk
 · have:i=0 ∨ i=1:=by simp [exRows] at hi;omega
   rcases this with rfl | rfl
   · show Fit (scaleOf ⟨[⟨[120],[49]⟩],[51]⟩);rw [sc0];exact fit_small (by decide)
   · show Fit (scaleOf ⟨[⟨[120],[45,49]⟩],[48]⟩);rw [sc1];exact fit_small (by decide)
theorem ex_value:Rat.divInt (exU.cell exRows.length 0) (exU.den*goalS exGoal)=6:=by
 rw [sg_]
 decide+kernel
theorem ex_point:RLen 67108864 (vecN exU 1 exRows.length 0):=by
 have h1:(vecN exU 1 2 0).num.natAbs ≤ 100 ∧ (vecN exU 1 2 0).den ≤ 100:=by decide+kernel
 exact rlen_small h1.1 h1.2 (by omega)
theorem ex_weights:∀ k,k<exRows.length → RLen 67108864 (wtN exU 1 exRows.length (begS exRows) (goalS exGoal) (2*1+1) k):=by
 intro k hk
 have hs:∀ i,i<2 → begS exRows i=1:=by
  intro i hi
  have:i=0 ∨ i=1:=by omega
  rcases this with rfl | rfl
  · exact sc0
  · exact sc1
 have e:wtN exU 1 exRows.length (begS exRows) (goalS exGoal) (2*1+1) k=wtN exU 1 2 (fun _=>1) 1 3 k:=by
  rw [sg_]
  have hk2:k<2:=hk
  have h1:=hs k hk2
  unfold wtN wtN wtN wtN
  simp only [h1]
  rfl
 rw [e]
 have h1:∀ k,k<2 → (wtN exU 1 2 (fun _=>1) 1 3 k).num.natAbs ≤ 100 ∧ (wtN exU 1 2 (fun _=>1) 1 3 k).den ≤ 100:=by decide+kernel
 have:=h1 k hk
 exact rlen_small this.1 this.2 (by omega)
end Go.Proofs.YtnmkalocbfdecaaGreatDoor
