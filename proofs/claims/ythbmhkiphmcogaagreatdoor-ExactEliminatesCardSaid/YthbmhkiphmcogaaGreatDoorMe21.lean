/- Parts of the proof. -/
import Derived.Test.YthbmhkiphmcogaaGreatDoorMe20
import Derived.Test.YthbmhkiphmcogaaGreatDoorMe14
set_option linter.all false
set_option maxRecDepth 100000
set_option maxHeartbeats 32000000
namespace Go.Proofs.YthbmhkiphmcogaaGreatDoor
open Proofs.Tryz Go.RowKit Go.Deep
attribute [local go_sem ↓] Go.wp_at_zero Go.wp_at_succ
def vZ (w:World) (g:Nat):Prop:=∃ (ng:Bool) (A:Option Addr) (n c:Nat) (B:Option Addr) (m d:Nat),Blk w g 64 #[.bool ng,.slice A n c,.slice B m d]
theorem xS {w w' :World} {g:Nat} (hb:Below w.heap.size w w') (h:Hid (vZ w g)):Hid (vZ w' g):=by
 obtain ⟨ng,A,n,c,B,m,d,h⟩:=h.out
 exact ⟨ng,A,n,c,B,m,d,h.below hb h.lt⟩
theorem zf8 {w w' :World} {v:Value} {n:Nat} (hb:Below w.heap.size w w') (h:Hid (zy w v n)):Hid (zy w' v n):=zy.below h.out hb
section
variable {W w0:World} {g g' i n c m d k:Nat} {ng:Bool} {A B:Option Addr} {v:Value}
theorem vE (h:Hid (vZ W g)):Hid (vZ (World.ref W g ng A n c B m d) g):=by
 obtain ⟨ng,A,n,c,B,m,d,h⟩:=h.out
 exact ⟨_,_,_,_,_,_,_,yT h⟩
theorem vf (hg:w0.heap.size<=g) (h:Hid (Below w0.heap.size w0 W)):Hid (Below w0.heap.size w0 (World.ref W g ng A n c B m d)):=yK h.out hg
theorem XA (b:Hid (vZ W g)) (h:Hid (zy W v k)):Hid (zy (World.ref W g ng A n c B m d) v k):=by
 obtain ⟨ng,A,n,c,B,m,d,b⟩:=b.out
 exact yf h.out b
theorem zY (hne:g≠g') (h:W.cell? ⟨g,i,none⟩=some v):(World.ref W g' ng A n c B m d).cell? ⟨g,i,none⟩=some v:=by
 rw [<- h]
 simp only [World.ref]
 rw [World.cell?_setCell_other,World.cell?_setCell_other,World.cell?_setCell_other]
 all_goals (intro e;injection e with e;exact hne e.symm)
theorem xY (h:k<W.heap.size):k<(World.ref W g' ng A n c B m d).heap.size:=by
 simp only [World.ref,World.setCell,Array.size_modify]
 exact h
end
def zvy (v:Value):Prop:=∃ (ng:Bool) (A:Option Addr) (n c:Nat) (B:Option Addr) (m d:Nat),v= .agg #[.bool ng,.slice A n c,.slice B m d]
def xV (w:World) (l:List UInt8) (e:Ending) (w' :World):Prop:=
 ∃ v b,e= .returned (.tuple #[v,.bool b])/\zvy v/\b=(zp l).isSome/\(∀ q,zp l=some q->xf w' v q)/\Below w.heap.size w w'
theorem xV.no {w w' :World} {l:List UInt8} {v:Value} (h:zp l=none) (hv:zvy v) (hb:Below w.heap.size w w'):xV w l (.returned (.tuple #[v,.bool false])) w' :=
 ⟨v,false,rfl,hv,by rw [h];rfl,fun q hq=>(by rw [h] at hq;cases hq),hb⟩
theorem xV.maybe {w w' :World} {l:List UInt8} {v:Value} {q:Rat} {b:Bool} (h:zp l=if zw q=l then some q else none) (hb' :b=decide (zw q=l)) (hv:xf w' v q) (hb:Below w.heap.size w w'):
 xV w l (.returned (.tuple #[v,.bool b])) w' :=by
 subst hb'
 by_cases e:zw q=l
 rotate_left
 . rw [if_neg e] at h
   rw [decide_eq_false e];refine xV.no h ?_ hb;obtain ⟨ng,A,n,c,B,m,d,rfl,_⟩:=hv;exact ⟨_,_,_,_,_,_,_,rfl⟩
 rw [if_pos e] at h
 refine ⟨v,_,rfl,?_,by rw [h,decide_eq_true e];rfl,fun q' hq=>?_,hb⟩
 . obtain ⟨ng,A,n,c,B,m,d,rfl,_⟩:=hv;exact ⟨_,_,_,_,_,_,_,rfl⟩
 rw [h] at hq;injection hq with hq;rw [<- hq];exact hv
theorem zez {ng:Bool} {n d M:Nat} (hd:0<d) (h1:len 1000000000 n<=M) (h2:len 1000000000 d<=M):XE M (vj ng n d):=by
 obtain ⟨e,b,_⟩:=zih ng n d hd
 unfold XE
 rw [e,b]
 exact ⟨Nat.le_trans (vI (by omega) (Nat.div_le_self _ _)) h1,Nat.le_trans (vI (by omega) (Nat.div_le_self _ _)) h2⟩
theorem zvc {l:List UInt8} {K:Nat} (h:xG l=true) (hl:l.length<=K):len 1000000000 (zH l)<=K:=by
 unfold xG at h
 rw [Bool.and_eq_true] at h
 have b:=Vi h.1
 refine yv (by omega) (Nat.lt_of_lt_of_le b ?_)
 exact Nat.le_trans (Nat.pow_le_pow_left (by decide:10<=1000000000) _) (Nat.pow_le_pow_right (by decide) hl)
theorem zlg {l:List UInt8} (h:xG l=true) (hl:l.length<=50000):len 1000000000 (zH l)<=50000:=zvc h hl
theorem zor (l:List UInt8) (s:ByteArray):(l == s.toList)=decide (l=bts s):=by
 rw [Lib.toList_data]
 show (l == bts s)=_
 by_cases h:l=bts s
 . rw [decide_eq_true h];exact beq_iff_eq.2 h
 rw [decide_eq_false h];exact beq_eq_false_iff_ne.2 h
theorem V2 {l:List UInt8} (h:xG l=true):l.all xu=true:=by
 unfold xG at h;rw [Bool.and_eq_true] at h;exact h.1
theorem ze8 (s:ByteArray) (w:World) (hs:s.size<=1073741824):
 Calls Tryz.prog 51 #[.string s] w (xV w (bts s)):=by
 have C:=ze (zf w (.cells #[.bool false,.slice none 0 0,.slice none 0 0] 64))
 have j:=ze (Blk.new w 64 #[.bool false,.slice none 0 0,.slice none 0 0])
 by_cases aO:100002<s.size
 . have D:=ze (zpo (l:=bts s) (by rw [zm];exact aO))
   have a5:decide (100002<(s.size:Int))=true:=by rw [decide_eq_true_eq];omega
   clear aO
   go_enter func51,ntmps51
   go_wp2_with fail;have y:=yT (ng:=false) (A:=none) (n:=0) (c:=0) (B:=none) (m:=0) (d:=0) j.o;have r:=y.cell 0;have u:=y.cell 1;have z:=y.cell 2;simp only [World.ref] at r u z;simp at r u z;refine bodyPost_ret (v:=.tuple #[.agg #[.bool false,.slice none 0 0,.slice none 0 0],.bool false]) (by simp [results,results51,go_sem,r,u,z]) rfl ?_
   first
   | exact xV.no D.o ⟨_,_,_,_,_,_,_,rfl⟩ C.o
   | exact xV.no D.o ⟨_,_,_,_,_,_,_,rfl⟩ (yK (g:=w.heap.size) (ng:=false) (A:=none) (n:=0) (c:=0) (B:=none) (m:=0) (d:=0) C.o (Nat.le_refl _))
 have a8:=ze (show s.size<=100002 by omega)
 have a5:decide (100002<(s.size:Int))=false:=by rw [decide_eq_false_iff_not];omega
 clear aO
 obtain ⟨ng,t,HN,Q,aA,hcase⟩:∃ (ng:Bool) (t:ByteArray),Hid (ng=yO (bts s))/\Hid (bts t=zq (bts s))/\Hid (t.size<=1073741824)/\
  ((s.toList.isEmpty=true/\ng=false/\s=t)\/(∃ h:0<s.size,((s[0].toNat:Int) == 45)=false/\ng=false/\s=t/\s.toList.isEmpty=false)\/(∃ h:0<s.size,((s[0].toNat:Int) == 45)=true/\ng=true/\t=s.extract 1 s.size/\s.toList.isEmpty=false)):=by
  by_cases h0:0<s.size
  rotate_left
  . have he:bts s=[]:=by
     apply List.eq_nil_of_length_eq_zero;rw [zm];omega
    refine ⟨false,s,by rw [he];exact rfl,by rw [he];exact rfl,hs,.inl ⟨?_,rfl,rfl⟩⟩;rw [Lib.toList_data];unfold bts at he;rw [show s.data.toList=[] from he];rfl
  have a1:s.toList.isEmpty=false:=by
   rw [Bool.eq_false_iff];intro e;have e:=List.isEmpty_iff.1 e;have:=congrArg List.length e;rw [Lib.toList_data] at this;simp at this;rw [this] at h0;exact absurd h0 (by decide)
  have hh:(bts s).head?=some s[0]:=by
   have:=ZL s 0 h0;rw [List.head?_eq_getElem?,List.getElem?_eq_getElem (by rw [zm];exact h0),this]
  by_cases h1:s[0]=45
  rotate_left
  . have aB:yO (bts s)=false:=by
     unfold yO;rw [hh];rw [beq_eq_false_iff_ne];intro e;injection e with e;exact h1 e
    refine ⟨false,s,aB.symm,(YU aB).symm,hs,.inr (.inl ⟨h0,?_,rfl,rfl,a1⟩)⟩;rw [beq_eq_false_iff_ne];intro e;exact h1 (UInt8.toNat_inj.1 (by have:(45:UInt8).toNat=45:=rfl;omega))
  have aB:yO (bts s)=true:=by unfold yO;rw [hh,h1];rfl
  refine ⟨true,s.extract 1 s.size,aB.symm,?_,?_,.inr (.inr ⟨h0,by rw [h1];rfl,rfl,rfl,a1⟩)⟩
  rotate_left
  . show _<=_
    rw [ByteArray.size_extract];omega
  show _=_
  rw [Zj,List.take_of_length_le (by rw [zm];exact Nat.le_refl _)];have:=Vh aB
  conv=>lhs;rw [this]
  rfl
 have hcut:∀ W,Calls Tryz.prog 88 #[.string t,.int .u8 47] W (fun e w' =>∃ a b n,e= .returned (.tuple #[.string a,.string b,.bool (has 47 (zq (bts s)))])/\bts a=ahead 47 (zq (bts s))/\bts b=(if has 47 (zq (bts s))=true then yt 47 (zq (bts s)) else [])/\w' =W.drewN n):=by
  intro W;refine (zvp t 47 W aA.o).mono ?_;rintro e w' ⟨a,b,h1,h2,h3,n,h4⟩;rw [Q.o] at h1 h2 h3;exact ⟨a,b,n,h1,h2,h3,h4⟩
 rcases hcase with ⟨z1,rfl,rfl⟩ | ⟨h0,z1,rfl,rfl,z2⟩ | ⟨h0,z1,rfl,rfl,z2⟩
 all_goals
  go_enter func51,ntmps51
  go_wp2_with fail;refine (hcut _).mono ?_;rintro e w1 ⟨a,b,n,rfl,ha,hb,rfl⟩;have U:=ze ha
  have aZ:(ahead 47 (zq (bts s))).length<=s.size:=by
   have h1:(ahead 47 (zq (bts s))).length<=(zq (bts s)).length:=(List.takeWhile_sublist _).length_le;have h2:(zq (bts s)).length<=(bts s).length:=by unfold zq;split<;>simp
   rw [zm] at h2
   omega
  have a0:(yt 47 (zq (bts s))).length<=s.size:=by
   have h1:(yt 47 (zq (bts s))).length<=(zq (bts s)).length:=by
    unfold yt;have:=(List.dropWhile_sublist (fun x=>x != (47:UInt8)) (l:=zq (bts s))).length_le;rw [List.length_tail];omega
   have h2:(zq (bts s)).length<=(bts s).length:=by unfold zq;split<;>simp
   rw [zm] at h2
   omega
  have aI:=ze (show a.size<=1073741824 by rw [<- zm,ha];omega);have ai:=ze (j.o.below (zD _ n) j.o.lt);have aj:=ze (zo C.o n);clear j C;have j:=ai;have C:=aj;clear ai aj;generalize World.drewN _ n=W at j C |-;have R:=j.o.cell 0;have T:=j.o.cell 1;have S:=j.o.cell 2;have f0:=j.o.frozen 0;have f1:=j.o.frozen 1;have f2:=j.o.frozen 2;have lR:=j.o.lt;simp at R T S
  cases hh:has 47 (zq (bts s)) with
  | false=>
    have a4:=ze (show vC (bts s)=[49] by unfold vC;rw [hh];rfl);clear hh hb ha aZ a0 hcut z1;go_wp2_with fail;generalize aR:(⟨#[49]⟩:ByteArray)=t;have Q:Hid (bts t=vC (bts s)):=ze (by rw [a4.o, <- aR];rfl);have aA:Hid (t.size<=1073741824):=ze (by rw [<- aR];decide);clear aR
    rcases Bool.eq_false_or_eq_true (xG (bts a)) with d1 | d1
    rotate_left
    . have D:=ze (Xf (.inl (by rw [<- U.o];exact d1)))
      have O:=ze d1;clear d1;refine (Y5 a _ aI.o).mono ?_;rintro e w1 ⟨rfl,rfl⟩;rw [O.o];go_wp2_with fail;have y:=yT (ng:=false) (A:=none) (n:=0) (c:=0) (B:=none) (m:=0) (d:=0) j.o;have r:=y.cell 0;have u:=y.cell 1;have z:=y.cell 2;simp only [World.ref] at r u z;simp at r u z;refine bodyPost_ret (v:=.tuple #[.agg #[.bool false,.slice none 0 0,.slice none 0 0],.bool false]) (by simp [results,results51,go_sem,r,u,z]) rfl ?_
      first
      | exact xV.no D.o ⟨_,_,_,_,_,_,_,rfl⟩ C.o
      | exact xV.no D.o ⟨_,_,_,_,_,_,_,rfl⟩ (yK (g:=w.heap.size) (ng:=false) (A:=none) (n:=0) (c:=0) (B:=none) (m:=0) (d:=0) C.o (Nat.le_refl _))
    have O:=ze d1
    clear d1;refine (Y5 a _ aI.o).mono ?_;rintro e w1 ⟨rfl,rfl⟩;rw [O.o];go_wp2_with fail;refine (Y5 t _ aA.o).mono ?_;rintro e w1 ⟨rfl,rfl⟩
    rcases Bool.eq_false_or_eq_true (xG (bts t)) with N | N
    rotate_left
    . have D:=ze (Xf (.inr (.inl (by rw [<- Q.o];exact N))))
      rw [N];clear N;go_wp2_with fail;have y:=yT (ng:=false) (A:=none) (n:=0) (c:=0) (B:=none) (m:=0) (d:=0) j.o;have r:=y.cell 0;have u:=y.cell 1;have z:=y.cell 2;simp only [World.ref] at r u z;simp at r u z;refine bodyPost_ret (v:=.tuple #[.agg #[.bool false,.slice none 0 0,.slice none 0 0],.bool false]) (by simp [results,results51,go_sem,r,u,z]) rfl ?_
      first
      | exact xV.no D.o ⟨_,_,_,_,_,_,_,rfl⟩ C.o
      | exact xV.no D.o ⟨_,_,_,_,_,_,_,rfl⟩ (yK (g:=w.heap.size) (ng:=false) (A:=none) (n:=0) (c:=0) (B:=none) (m:=0) (d:=0) C.o (Nat.le_refl _))
    have ap:=ze N
    rw [N];clear N
    by_cases l1:50000<a.size
    . have D:=ze (Xf (.inr (.inr (.inl (by rw [<- U.o,zm];exact l1)))))
      go_wp2_with fail;have y:=yT (ng:=false) (A:=none) (n:=0) (c:=0) (B:=none) (m:=0) (d:=0) j.o;have r:=y.cell 0;have u:=y.cell 1;have z:=y.cell 2;simp only [World.ref] at r u z;simp at r u z;refine bodyPost_ret (v:=.tuple #[.agg #[.bool false,.slice none 0 0,.slice none 0 0],.bool false]) (by simp [results,results51,go_sem,r,u,z]) rfl ?_
      first
      | exact xV.no D.o ⟨_,_,_,_,_,_,_,rfl⟩ C.o
      | exact xV.no D.o ⟨_,_,_,_,_,_,_,rfl⟩ (yK (g:=w.heap.size) (ng:=false) (A:=none) (n:=0) (c:=0) (B:=none) (m:=0) (d:=0) C.o (Nat.le_refl _))
    by_cases l2:50000<t.size
    . have D:=ze (Xf (.inr (.inr (.inr (.inl (by rw [<- Q.o,zm];exact l2))))))
      go_wp2_with fail;have y:=yT (ng:=false) (A:=none) (n:=0) (c:=0) (B:=none) (m:=0) (d:=0) j.o;have r:=y.cell 0;have u:=y.cell 1;have z:=y.cell 2;simp only [World.ref] at r u z;simp at r u z;refine bodyPost_ret (v:=.tuple #[.agg #[.bool false,.slice none 0 0,.slice none 0 0],.bool false]) (by simp [results,results51,go_sem,r,u,z]) rfl ?_
      first
      | exact xV.no D.o ⟨_,_,_,_,_,_,_,rfl⟩ C.o
      | exact xV.no D.o ⟨_,_,_,_,_,_,_,rfl⟩ (yK (g:=w.heap.size) (ng:=false) (A:=none) (n:=0) (c:=0) (B:=none) (m:=0) (d:=0) C.o (Nat.le_refl _))
    have aw:=ze (show (bts a).length<=50000 by rw [zm];omega)
    have au:=ze (show (bts t).length<=50000 by rw [zm];omega);have ag:=ze (zod (l:=bts s) (by rw [<- U.o];exact O.o) (by rw [<- Q.o];exact ap.o) (by rw [<- U.o];exact aw.o) (by rw [<- Q.o];exact au.o));go_wp2_with fail;refine (zck t _ (V2 ap.o) (by have:=au.o;rw [zm] at this;omega)).mono ?_;rintro e w2 ⟨v,rfl,Z,an⟩;have ah:=zlg ap.o au.o;have ad:=zlg O.o aw.o;rw [Q.o] at Z ah;rw [U.o] at ad;obtain ⟨dv,am⟩:∃ dv,zH (vC (bts s))=dv:=⟨_,rfl⟩;obtain ⟨nv,ao⟩:∃ nv,zH (ahead 47 (zq (bts s)))=nv:=⟨_,rfl⟩;rw [am] at Z ah ag;rw [ao] at ad ag;have aS:=ze am;have aJ:=ze ao;obtain ⟨A,c,rfl⟩:=Z.form;have HV:=ze Z;have aH:=ze ah;have aE:=ze ad;have aj:=ze (ext C.o an);have ai:=ze (j.o.below an j.o.lt);clear R T S f0 f1 f2 lR j C;have j:=ai;have C:=aj;clear ai aj;have R:=j.o.cell 0;have T:=j.o.cell 1;have S:=j.o.cell 2;have f0:=j.o.frozen 0;have f1:=j.o.frozen 1;have f2:=j.o.frozen 2;have lR:=j.o.lt;simp at R T S
    clear Z ah ad an l1 l2 am ao
    by_cases hz:dv=0
    . subst hz
      have D:=ze (Xf (.inr (.inr (.inr (.inr aS.o)))));have aU:((len 1000000000 0:Int) == 0)=true:=by rw [Vz];rfl
      go_wp2_with fail;have y:=yT (ng:=false) (A:=none) (n:=0) (c:=0) (B:=none) (m:=0) (d:=0) j.o;have r:=y.cell 0;have u:=y.cell 1;have z:=y.cell 2;simp only [World.ref] at r u z;simp at r u z;refine bodyPost_ret (v:=.tuple #[.agg #[.bool false,.slice none 0 0,.slice none 0 0],.bool false]) (by simp [results,results51,go_sem,r,u,z]) rfl ?_
      first
      | exact xV.no D.o ⟨_,_,_,_,_,_,_,rfl⟩ C.o
      | exact xV.no D.o ⟨_,_,_,_,_,_,_,rfl⟩ (yK (g:=w.heap.size) (ng:=false) (A:=none) (n:=0) (c:=0) (B:=none) (m:=0) (d:=0) C.o (Nat.le_refl _))
    have aU:((len 1000000000 dv:Int) == 0)=false:=by rw [beq_eq_false_iff_ne];have:=zbt (β:=1000000000) (n:=dv) (by omega) (by omega);omega
    have HZ:=ze (show 0<dv by omega);clear hz;go_wp2_with fail;refine (zck a _ (V2 O.o) (by have:=aw.o;rw [zm] at this;omega)).mono ?_;rintro e w3 ⟨v3,rfl,aq,af⟩;rw [U.o,aJ.o] at aq;have ax:=ze aq;have aF:=ze (zy.below HV.o af);have az:=ze (ext C.o af);have X:=ze (j.o.below af j.o.lt);clear aq af R T S f0 f1 f2 lR j C;go_wp2_with fail;refine (ZO _ _ _ nv dv _ ax.o aF.o HZ.o (Nat.le_trans aE.o (by decide)) (Nat.le_trans aH.o (by decide))).mono ?_;rintro e Y ⟨v4,rfl,aa,ac⟩;rw [HN.o] at aa;obtain ⟨q,hq⟩:∃ q,q=vj (yO (bts s)) nv dv:=⟨_,rfl⟩;have aP:=ze (show XE 33554432 q by rw [hq];exact zez HZ.o (Nat.le_trans aE.o (by decide)) (Nat.le_trans aH.o (by decide)));rw [<- hq] at aa ag;obtain ⟨nq,F,E,I,G,rfl,aD,aC,ay⟩:=aa.form;have aG:=ze aD;have V:=zf Y (.cells #[.bool nq,.slice F (len 1000000000 q.num.natAbs) E,.slice I (len 1000000000 q.den) G] 64);have ak:=ze (show vZ _ w.heap.size from ⟨_,_,_,_,_,_,_,X.o.below (ext ac V) X.o.lt⟩)
    have al:=ze (ext az.o (ext ac V));have ab:=ze (zy.below aC V);have ae:=ze (zy.below ay V);have M:=ze (Blk.new Y 64 #[.bool nq,.slice F (len 1000000000 q.num.natAbs) E,.slice I (len 1000000000 q.den) G]);have aL:w.heap.size<Y.heap.size:=(X.o.below ac X.o.lt).lt;obtain ⟨K,ar⟩:∃ K,len 1000000000 q.num.natAbs=K:=⟨_,rfl⟩;obtain ⟨J,av⟩:∃ J,len 1000000000 q.den=J:=⟨_,rfl⟩;rw [ar,av] at ak al M |-;rw [ar,av] at ab ae;clear hq aa aD ac V aC ay ar av X az ax aF HV;go_wp2_with fail;generalize aT:Y.heap.size=gq at M aL |-;generalize Y.alloc (.cells #[.bool nq,.slice F K E,.slice I J G] 64)=W7 at ab ae ak al M |-;clear aT;have a3:=M.o.lt;have q0:=M.o.cell 0;have q1:=M.o.cell 1;have q2:=M.o.cell 2;simp at q0 q1 q2;have aM:=ze (show vZ W7.drew w.heap.size from ak.o);have aW:=ze (show Below w.heap.size w W7.drew from zo al.o 1);have aN:=ze (show zy W7.drew _ q.num.natAbs from zy.below ab.o (zD W7 1))
    have aK:=ze (show zy W7.drew _ q.den from zy.below ae.o (zD W7 1));clear ab ae
    go_region_held3 (fun w' =>w'.cell? ⟨gq,0,none⟩=some (.bool nq)/\w'.cell? ⟨gq,1,none⟩=some (.slice F K E)/\w'.cell? ⟨gq,2,none⟩=some (.slice I J G)/\gq<w'.heap.size/\Hid (vZ w' w.heap.size)/\Hid (Below w.heap.size w w')/\Hid (zy w' (.slice F K E) q.num.natAbs)/\Hid (zy w' (.slice I J G) q.den))
     (first
       | with_reducible exact ⟨by go_keep,by go_keep,by go_keep,by first | (simp;done) | (simp;assumption),aM,aW,aN,aK⟩
       | (go_split_ands;with_reducible exact ⟨zY (by omega) ‹_›,zY (by omega) ‹_›,zY (by omega) ‹_›,xY ‹_›,vE ‹_›,vf (by omega) ‹_›,XA ‹_› ‹_›,XA ‹_› ‹_›⟩)
       | (go_split_ands;with_reducible exact ⟨zj ‹_› ‹_› ‹_›,zj ‹_› ‹_› ‹_›,zj ‹_› ‹_› ‹_›,zG ‹_› ‹_›,xS ‹_› ‹_›,zr ‹_› ‹_›,zf8 ‹_› ‹_›,zf8 ‹_› ‹_›⟩)
       | go_keep)
     (first
       | (go_at_call 85;refine (zcm _ q _ ⟨_,_,_,_,_,_,_,rfl,aG.o,zK (by go_split_ands;assumption),zK (by go_split_ands;assumption)⟩ aP.o).mono ?_;rintro e wo ⟨rfl,aY⟩;obtain ⟨a6,Ar,kr,cr,Br,a2,a7,L⟩:=(xS (g:=w.heap.size) aY (by go_split_ands;assumption)).out;have R:=L.cell 0;have T:=L.cell 1;have S:=L.cell 2;have f0:=L.frozen 0;have f1:=L.frozen 1;have f2:=L.frozen 2;simp at R T S;have j:=ze L;clear L))
    all_goals
     go_split_ands;have y:=yT (ng:=nq) (A:=F) (n:=K) (c:=E) (B:=I) (m:=J) (d:=G) j.o;have aQ:=zK (by assumption:Hid (zy (World.ref wo w.heap.size nq F K E I J G) (.slice F K E) q.num.natAbs));have aV:=zK (by assumption:Hid (zy (World.ref wo w.heap.size nq F K E I J G) (.slice I J G) q.den));have aX:=zK (by assumption:Hid (Below w.heap.size w (World.ref wo w.heap.size nq F K E I J G)));have r:=y.cell 0;have u:=y.cell 1;have z:=y.cell 2;simp only [World.ref] at r u z;simp at r u z;go_wp2;refine bodyPost_ret (v:=.tuple #[.agg #[.bool nq,.slice F K E,.slice I J G],.bool (zw q == s.toList)]) (by simp [results,results51,go_sem,r,u,z]) rfl ?_;exact xV.maybe ag.o (zor _ _) ⟨_,_,_,_,_,_,_,rfl,aG.o,aQ,aV⟩ aX
  | true=>
    have Q:=ze (show bts b=vC (bts s) by rw [hb,if_pos hh];unfold vC;rw [hh];rfl);have aA:=ze (show b.size<=1073741824 by rw [<- zm,hb,if_pos hh];omega);clear hh hb ha aZ a0 hcut z1;obtain ⟨t,ht⟩:∃ t,t=b:=⟨b,rfl⟩;subst ht;go_wp2_with fail
    rcases Bool.eq_false_or_eq_true (xG (bts a)) with d1 | d1
    rotate_left
    . have D:=ze (Xf (.inl (by rw [<- U.o];exact d1)))
      have O:=ze d1;clear d1;refine (Y5 a _ aI.o).mono ?_;rintro e w1 ⟨rfl,rfl⟩;rw [O.o];go_wp2_with fail;have y:=yT (ng:=false) (A:=none) (n:=0) (c:=0) (B:=none) (m:=0) (d:=0) j.o;have r:=y.cell 0;have u:=y.cell 1;have z:=y.cell 2;simp only [World.ref] at r u z;simp at r u z;refine bodyPost_ret (v:=.tuple #[.agg #[.bool false,.slice none 0 0,.slice none 0 0],.bool false]) (by simp [results,results51,go_sem,r,u,z]) rfl ?_
      first
      | exact xV.no D.o ⟨_,_,_,_,_,_,_,rfl⟩ C.o
      | exact xV.no D.o ⟨_,_,_,_,_,_,_,rfl⟩ (yK (g:=w.heap.size) (ng:=false) (A:=none) (n:=0) (c:=0) (B:=none) (m:=0) (d:=0) C.o (Nat.le_refl _))
    have O:=ze d1
    clear d1;refine (Y5 a _ aI.o).mono ?_;rintro e w1 ⟨rfl,rfl⟩;rw [O.o];go_wp2_with fail;refine (Y5 t _ aA.o).mono ?_;rintro e w1 ⟨rfl,rfl⟩
    rcases Bool.eq_false_or_eq_true (xG (bts t)) with N | N
    rotate_left
    . have D:=ze (Xf (.inr (.inl (by rw [<- Q.o];exact N))))
      rw [N];clear N;go_wp2_with fail;have y:=yT (ng:=false) (A:=none) (n:=0) (c:=0) (B:=none) (m:=0) (d:=0) j.o;have r:=y.cell 0;have u:=y.cell 1;have z:=y.cell 2;simp only [World.ref] at r u z;simp at r u z;refine bodyPost_ret (v:=.tuple #[.agg #[.bool false,.slice none 0 0,.slice none 0 0],.bool false]) (by simp [results,results51,go_sem,r,u,z]) rfl ?_
      first
      | exact xV.no D.o ⟨_,_,_,_,_,_,_,rfl⟩ C.o
      | exact xV.no D.o ⟨_,_,_,_,_,_,_,rfl⟩ (yK (g:=w.heap.size) (ng:=false) (A:=none) (n:=0) (c:=0) (B:=none) (m:=0) (d:=0) C.o (Nat.le_refl _))
    have ap:=ze N
    rw [N];clear N
    by_cases l1:50000<a.size
    . have D:=ze (Xf (.inr (.inr (.inl (by rw [<- U.o,zm];exact l1)))))
      go_wp2_with fail;have y:=yT (ng:=false) (A:=none) (n:=0) (c:=0) (B:=none) (m:=0) (d:=0) j.o;have r:=y.cell 0;have u:=y.cell 1;have z:=y.cell 2;simp only [World.ref] at r u z;simp at r u z;refine bodyPost_ret (v:=.tuple #[.agg #[.bool false,.slice none 0 0,.slice none 0 0],.bool false]) (by simp [results,results51,go_sem,r,u,z]) rfl ?_
      first
      | exact xV.no D.o ⟨_,_,_,_,_,_,_,rfl⟩ C.o
      | exact xV.no D.o ⟨_,_,_,_,_,_,_,rfl⟩ (yK (g:=w.heap.size) (ng:=false) (A:=none) (n:=0) (c:=0) (B:=none) (m:=0) (d:=0) C.o (Nat.le_refl _))
    by_cases l2:50000<t.size
    . have D:=ze (Xf (.inr (.inr (.inr (.inl (by rw [<- Q.o,zm];exact l2))))))
      go_wp2_with fail;have y:=yT (ng:=false) (A:=none) (n:=0) (c:=0) (B:=none) (m:=0) (d:=0) j.o;have r:=y.cell 0;have u:=y.cell 1;have z:=y.cell 2;simp only [World.ref] at r u z;simp at r u z;refine bodyPost_ret (v:=.tuple #[.agg #[.bool false,.slice none 0 0,.slice none 0 0],.bool false]) (by simp [results,results51,go_sem,r,u,z]) rfl ?_
      first
      | exact xV.no D.o ⟨_,_,_,_,_,_,_,rfl⟩ C.o
      | exact xV.no D.o ⟨_,_,_,_,_,_,_,rfl⟩ (yK (g:=w.heap.size) (ng:=false) (A:=none) (n:=0) (c:=0) (B:=none) (m:=0) (d:=0) C.o (Nat.le_refl _))
    have aw:=ze (show (bts a).length<=50000 by rw [zm];omega)
    have au:=ze (show (bts t).length<=50000 by rw [zm];omega);have ag:=ze (zod (l:=bts s) (by rw [<- U.o];exact O.o) (by rw [<- Q.o];exact ap.o) (by rw [<- U.o];exact aw.o) (by rw [<- Q.o];exact au.o));go_wp2_with fail;refine (zck t _ (V2 ap.o) (by have:=au.o;rw [zm] at this;omega)).mono ?_;rintro e w2 ⟨v,rfl,Z,an⟩;have ah:=zlg ap.o au.o;have ad:=zlg O.o aw.o;rw [Q.o] at Z ah;rw [U.o] at ad;obtain ⟨dv,am⟩:∃ dv,zH (vC (bts s))=dv:=⟨_,rfl⟩;obtain ⟨nv,ao⟩:∃ nv,zH (ahead 47 (zq (bts s)))=nv:=⟨_,rfl⟩;rw [am] at Z ah ag;rw [ao] at ad ag;have aS:=ze am;have aJ:=ze ao;obtain ⟨A,c,rfl⟩:=Z.form;have HV:=ze Z;have aH:=ze ah;have aE:=ze ad;have aj:=ze (ext C.o an);have ai:=ze (j.o.below an j.o.lt);clear R T S f0 f1 f2 lR j C;have j:=ai;have C:=aj;clear ai aj;have R:=j.o.cell 0;have T:=j.o.cell 1;have S:=j.o.cell 2;have f0:=j.o.frozen 0;have f1:=j.o.frozen 1;have f2:=j.o.frozen 2;have lR:=j.o.lt;simp at R T S
    clear Z ah ad an l1 l2 am ao
    by_cases hz:dv=0
    . subst hz
      have D:=ze (Xf (.inr (.inr (.inr (.inr aS.o)))));have aU:((len 1000000000 0:Int) == 0)=true:=by rw [Vz];rfl
      go_wp2_with fail;have y:=yT (ng:=false) (A:=none) (n:=0) (c:=0) (B:=none) (m:=0) (d:=0) j.o;have r:=y.cell 0;have u:=y.cell 1;have z:=y.cell 2;simp only [World.ref] at r u z;simp at r u z;refine bodyPost_ret (v:=.tuple #[.agg #[.bool false,.slice none 0 0,.slice none 0 0],.bool false]) (by simp [results,results51,go_sem,r,u,z]) rfl ?_
      first
      | exact xV.no D.o ⟨_,_,_,_,_,_,_,rfl⟩ C.o
      | exact xV.no D.o ⟨_,_,_,_,_,_,_,rfl⟩ (yK (g:=w.heap.size) (ng:=false) (A:=none) (n:=0) (c:=0) (B:=none) (m:=0) (d:=0) C.o (Nat.le_refl _))
    have aU:((len 1000000000 dv:Int) == 0)=false:=by rw [beq_eq_false_iff_ne];have:=zbt (β:=1000000000) (n:=dv) (by omega) (by omega);omega
    have HZ:=ze (show 0<dv by omega);clear hz;go_wp2_with fail;refine (zck a _ (V2 O.o) (by have:=aw.o;rw [zm] at this;omega)).mono ?_;rintro e w3 ⟨v3,rfl,aq,af⟩;rw [U.o,aJ.o] at aq;have ax:=ze aq;have aF:=ze (zy.below HV.o af);have az:=ze (ext C.o af);have X:=ze (j.o.below af j.o.lt);clear aq af R T S f0 f1 f2 lR j C;go_wp2_with fail;refine (ZO _ _ _ nv dv _ ax.o aF.o HZ.o (Nat.le_trans aE.o (by decide)) (Nat.le_trans aH.o (by decide))).mono ?_;rintro e Y ⟨v4,rfl,aa,ac⟩;rw [HN.o] at aa;obtain ⟨q,hq⟩:∃ q,q=vj (yO (bts s)) nv dv:=⟨_,rfl⟩;have aP:=ze (show XE 33554432 q by rw [hq];exact zez HZ.o (Nat.le_trans aE.o (by decide)) (Nat.le_trans aH.o (by decide)));rw [<- hq] at aa ag;obtain ⟨nq,F,E,I,G,rfl,aD,aC,ay⟩:=aa.form;have aG:=ze aD;have V:=zf Y (.cells #[.bool nq,.slice F (len 1000000000 q.num.natAbs) E,.slice I (len 1000000000 q.den) G] 64);have ak:=ze (show vZ _ w.heap.size from ⟨_,_,_,_,_,_,_,X.o.below (ext ac V) X.o.lt⟩)
    have al:=ze (ext az.o (ext ac V));have ab:=ze (zy.below aC V);have ae:=ze (zy.below ay V);have M:=ze (Blk.new Y 64 #[.bool nq,.slice F (len 1000000000 q.num.natAbs) E,.slice I (len 1000000000 q.den) G]);have aL:w.heap.size<Y.heap.size:=(X.o.below ac X.o.lt).lt;obtain ⟨K,ar⟩:∃ K,len 1000000000 q.num.natAbs=K:=⟨_,rfl⟩;obtain ⟨J,av⟩:∃ J,len 1000000000 q.den=J:=⟨_,rfl⟩;rw [ar,av] at ak al M |-;rw [ar,av] at ab ae;clear hq aa aD ac V aC ay ar av X az ax aF HV;go_wp2_with fail;generalize aT:Y.heap.size=gq at M aL |-;generalize Y.alloc (.cells #[.bool nq,.slice F K E,.slice I J G] 64)=W7 at ab ae ak al M |-;clear aT;have a3:=M.o.lt;have q0:=M.o.cell 0;have q1:=M.o.cell 1;have q2:=M.o.cell 2;simp at q0 q1 q2;have aM:=ze (show vZ W7.drew w.heap.size from ak.o);have aW:=ze (show Below w.heap.size w W7.drew from zo al.o 1);have aN:=ze (show zy W7.drew _ q.num.natAbs from zy.below ab.o (zD W7 1))
    have aK:=ze (show zy W7.drew _ q.den from zy.below ae.o (zD W7 1));clear ab ae
    go_region_held3 (fun w' =>w'.cell? ⟨gq,0,none⟩=some (.bool nq)/\w'.cell? ⟨gq,1,none⟩=some (.slice F K E)/\w'.cell? ⟨gq,2,none⟩=some (.slice I J G)/\gq<w'.heap.size/\Hid (vZ w' w.heap.size)/\Hid (Below w.heap.size w w')/\Hid (zy w' (.slice F K E) q.num.natAbs)/\Hid (zy w' (.slice I J G) q.den))
     (first
       | with_reducible exact ⟨by go_keep,by go_keep,by go_keep,by first | (simp;done) | (simp;assumption),aM,aW,aN,aK⟩
       | (go_split_ands;with_reducible exact ⟨zY (by omega) ‹_›,zY (by omega) ‹_›,zY (by omega) ‹_›,xY ‹_›,vE ‹_›,vf (by omega) ‹_›,XA ‹_› ‹_›,XA ‹_› ‹_›⟩)
       | (go_split_ands;with_reducible exact ⟨zj ‹_› ‹_› ‹_›,zj ‹_› ‹_› ‹_›,zj ‹_› ‹_› ‹_›,zG ‹_› ‹_›,xS ‹_› ‹_›,zr ‹_› ‹_›,zf8 ‹_› ‹_›,zf8 ‹_› ‹_›⟩)
       | go_keep)
     (first
       | (go_at_call 85;refine (zcm _ q _ ⟨_,_,_,_,_,_,_,rfl,aG.o,zK (by go_split_ands;assumption),zK (by go_split_ands;assumption)⟩ aP.o).mono ?_;rintro e wo ⟨rfl,aY⟩;obtain ⟨a6,Ar,kr,cr,Br,a2,a7,L⟩:=(xS (g:=w.heap.size) aY (by go_split_ands;assumption)).out;have R:=L.cell 0;have T:=L.cell 1;have S:=L.cell 2;have f0:=L.frozen 0;have f1:=L.frozen 1;have f2:=L.frozen 2;simp at R T S;have j:=ze L;clear L))
    all_goals
     go_split_ands;have y:=yT (ng:=nq) (A:=F) (n:=K) (c:=E) (B:=I) (m:=J) (d:=G) j.o;have aQ:=zK (by assumption:Hid (zy (World.ref wo w.heap.size nq F K E I J G) (.slice F K E) q.num.natAbs));have aV:=zK (by assumption:Hid (zy (World.ref wo w.heap.size nq F K E I J G) (.slice I J G) q.den));have aX:=zK (by assumption:Hid (Below w.heap.size w (World.ref wo w.heap.size nq F K E I J G)));have r:=y.cell 0;have u:=y.cell 1;have z:=y.cell 2;simp only [World.ref] at r u z;simp at r u z;go_wp2;refine bodyPost_ret (v:=.tuple #[.agg #[.bool nq,.slice F K E,.slice I J G],.bool (zw q == s.toList)]) (by simp [results,results51,go_sem,r,u,z]) rfl ?_;exact xV.maybe ag.o (zor _ _) ⟨_,_,_,_,_,_,_,rfl,aG.o,aQ,aV⟩ aX
theorem XM {a b M K:Nat} (h1:len 1000000000 a<=M) (h2:len 1000000000 b<=K):len 1000000000 (a*b)<=M+K:=
 Nat.le_trans (VS (by omega) a b) (Nat.add_le_add h1 h2)
theorem zaz (va vb:Value) (x y:Rat) (w:World) (ha:xf w va x) (hb:xf w vb y) (hx:XE 8388608 x) (hy:XE 8388608 y):
 Calls Tryz.prog 84 #[va,vb] w (Vc w (x*y)):=by
 obtain ⟨L,r,n1,c1,l,j,d1,rfl,ai,aa,ae⟩:=ha
 obtain ⟨I,Q,n2,c2,G,C,N,rfl,ab,R,S⟩:=hb
 have aD:=ze (Nat.le_trans hx.1 (show 8388608<=67108864 by omega))
 have aC:=ze (Nat.le_trans hx.2 (show 8388608<=67108864 by omega))
 have am:=ze (Nat.le_trans hy.1 (show 8388608<=67108864 by omega))
 have av:=ze (Nat.le_trans hy.2 (show 8388608<=67108864 by omega))
 have aw:=ze (Nat.le_trans (XM hx.1 hy.1) (show 8388608+8388608<=33554432 by omega))
 have al:=ze (Nat.le_trans (XM hx.2 hy.2) (show 8388608+8388608<=33554432 by omega))
 have az:=ze (show 0<x.den*y.den by have:=x.den_pos;have:=y.den_pos;exact Nat.mul_pos ‹0<x.den› ‹0<y.den›)
 rw [zuk x y, <- ai, <- ab]
 have au:=ze aa
 have aq:=ze ae
 have an:=ze R
 have ay:=ze S
 clear aa ae R S hx hy ai ab
 have aj:Hid (vZ ((((w.alloc (.cells #[.bool L,.slice r n1 c1,.slice l j d1] 64)).alloc (.cells #[.bool I,.slice Q n2 c2,.slice G C N] 64)).alloc (.cells #[.bool false,.slice none 0 0,.slice none 0 0] 64)).drew) (w.heap.size+1+1)):=by
  have h:=(Blk.new ((w.alloc (.cells #[.bool L,.slice r n1 c1,.slice l j d1] 64)).alloc (.cells #[.bool I,.slice Q n2 c2,.slice G C N] 64)) 64 #[.bool false,.slice none 0 0,.slice none 0 0]).drew
  simp only [World.size_alloc] at h
  exact ⟨_,_,_,_,_,_,_,h⟩
 have ax:Hid (Below w.heap.size w ((((w.alloc (.cells #[.bool L,.slice r n1 c1,.slice l j d1] 64)).alloc (.cells #[.bool I,.slice Q n2 c2,.slice G C N] 64)).alloc (.cells #[.bool false,.slice none 0 0,.slice none 0 0] 64)).drew)):=ze (zo (ext (ext (zf w (.cells #[.bool L,.slice r n1 c1,.slice l j d1] 64)) (zf _ (.cells #[.bool I,.slice Q n2 c2,.slice G C N] 64))) (zf _ (.cells #[.bool false,.slice none 0 0,.slice none 0 0] 64))) 1)
 go_enter func84,ntmps84
 go_wp2_with fail
 go_region_held3 (fun w' =>w'.cell? ⟨w.heap.size,0,none⟩=some (.bool L)/\w'.cell? ⟨w.heap.size,1,none⟩=some (.slice r n1 c1)/\w'.cell? ⟨w.heap.size,2,none⟩=some (.slice l j d1)/\w'.cell? ⟨w.heap.size+1,0,none⟩=some (.bool I)/\w'.cell? ⟨w.heap.size+1,1,none⟩=some (.slice Q n2 c2)/\w'.cell? ⟨w.heap.size+1,2,none⟩=some (.slice G C N)/\w.heap.size<w'.heap.size/\w.heap.size+1<w'.heap.size/\Hid (vZ w' (w.heap.size+1+1))/\Hid (Below w.heap.size w w'))
  (first
    | with_reducible exact ⟨by go_keep,by go_keep,by go_keep,by go_keep,by go_keep,by go_keep,by first | (simp;done) | (simp;omega),by first | (simp;done) | (simp;omega),aj,ax⟩
    | (go_split_ands;with_reducible exact ⟨zY (by omega) ‹_›,zY (by omega) ‹_›,zY (by omega) ‹_›,zY (by omega) ‹_›,zY (by omega) ‹_›,zY (by omega) ‹_›,xY ‹_›,xY ‹_›,vE ‹_›,vf (by omega) ‹_›⟩)
    | (go_split_ands;with_reducible exact ⟨zj ‹_› ‹_› ‹_›,zj ‹_› ‹_› ‹_›,zj ‹_› ‹_› ‹_›,zj ‹_› ‹_› ‹_›,zj ‹_› ‹_› ‹_›,zj ‹_› ‹_› ‹_›,zG ‹_› ‹_›,zG ‹_› ‹_›,xS ‹_› ‹_›,zr ‹_› ‹_›⟩)
    | go_keep)
  (first
    | (go_at_call_of 87 (Value.slice r n1 c1);refine (vt _ _ (x.num.natAbs) (y.num.natAbs) _ (zy.below au.o (zK (by go_split_ands;assumption))) (zy.below an.o (zK (by go_split_ands;assumption))) aD.o am.o).mono ?_;rintro e w1 ⟨v1,rfl,ac,R⟩;have u:=ze ac;clear ac;try replace M:=ze (zy.below M.o R))
    | (go_at_call_of 87 (Value.slice l j d1);refine (vt _ _ (x.den) (y.den) _ (zy.below aq.o (zK (by go_split_ands;assumption))) (zy.below ay.o (zK (by go_split_ands;assumption))) aC.o av.o).mono ?_;rintro e w2 ⟨v2,rfl,ad,S⟩;have M:=ze ad;clear ad;try replace u:=ze (zy.below u.o S))
    | (go_at_call 86;refine (ZO _ _ _ (x.num.natAbs*y.num.natAbs) (x.den*y.den) _ u.o M.o az.o aw.o al.o).mono ?_;rintro e wo ⟨vo,rfl,⟨D,E,O,z,J,K,F,rfl,ah,af,ag⟩,T⟩;obtain ⟨gr,Ar,kr,cr,Br,aE,aF,b⟩:=(xS (g:=w.heap.size+1+1) T (by go_split_ands;assumption)).out;have r0:=b.cell 0;have r1:=b.cell 1;have r2:=b.cell 2;have f0:=b.frozen 0;have f1:=b.frozen 1;have f2:=b.frozen 2;simp at r0 r1 r2;have aB:=ze ah;have ao:=ze af;have ap:=ze ag;have Z:=ze b;clear ah af ag b;try replace u:=ze (zy.below u.o T);try replace M:=ze (zy.below M.o T)))
 all_goals
  go_split_ands
  have Y:=yT (ng:=D) (A:=E) (n:=O) (c:=z) (B:=J) (m:=K) (d:=F) Z.o
  have aA:=yf (ng:=D) (A:=E) (n:=O) (c:=z) (B:=J) (m:=K) (d:=F) ao.o Z.o
  have ar:=yf (ng:=D) (A:=E) (n:=O) (c:=z) (B:=J) (m:=K) (d:=F) ap.o Z.o
  have ak:=zK (by assumption:Hid (Below w.heap.size w (World.ref wo (w.heap.size+1+1) D E O z J K F)))
  have V:=Y.cell 0
  have X:=Y.cell 1
  have U:=Y.cell 2
  simp only [World.ref] at V X U
  simp at V X U
  go_wp2
  refine bodyPost_ret (v:=.agg #[.bool D,.slice E O z,.slice J K F]) (by simp [results,results84,go_sem,V,X,U]) rfl ?_
  exact ⟨_,rfl,⟨_,_,_,_,_,_,_,rfl,aB.o,aA,ar⟩,ak⟩
theorem zby (va vb:Value) (x y:Rat) (w:World) (ha:xf w va x) (hb:xf w vb y) (hx:XE 8388608 x) (hy:XE 8388608 y) (hy0:y≠0):
 Calls Tryz.prog 48 #[va,vb] w (Vc w (x / y)):=by
 obtain ⟨L,r,n1,c1,l,j,d1,rfl,ai,aa,ae⟩:=ha
 obtain ⟨I,Q,n2,c2,G,C,N,rfl,ab,R,S⟩:=hb
 have aD:=ze (Nat.le_trans hx.1 (show 8388608<=67108864 by omega))
 have aC:=ze (Nat.le_trans hx.2 (show 8388608<=67108864 by omega))
 have am:=ze (Nat.le_trans hy.1 (show 8388608<=67108864 by omega))
 have av:=ze (Nat.le_trans hy.2 (show 8388608<=67108864 by omega))
 have aw:=ze (Nat.le_trans (XM hx.1 hy.2) (show 8388608+8388608<=33554432 by omega))
 have al:=ze (Nat.le_trans (XM hx.2 hy.1) (show 8388608+8388608<=33554432 by omega))
 have az:=ze (show 0<x.den*y.num.natAbs by refine Nat.mul_pos x.den_pos ?_;have h0:y.num≠0:=fun h=>hy0 (Rat.num_eq_zero.1 h);omega)
 rw [zuq x y, <- ai, <- ab]
 have au:=ze aa
 have aq:=ze ae
 have an:=ze R
 have ay:=ze S
 clear aa ae R S hx hy ai ab
 have aj:Hid (vZ ((((w.alloc (.cells #[.bool L,.slice r n1 c1,.slice l j d1] 64)).alloc (.cells #[.bool I,.slice Q n2 c2,.slice G C N] 64)).alloc (.cells #[.bool false,.slice none 0 0,.slice none 0 0] 64)).drew) (w.heap.size+1+1)):=by
  have h:=(Blk.new ((w.alloc (.cells #[.bool L,.slice r n1 c1,.slice l j d1] 64)).alloc (.cells #[.bool I,.slice Q n2 c2,.slice G C N] 64)) 64 #[.bool false,.slice none 0 0,.slice none 0 0]).drew
  simp only [World.size_alloc] at h
  exact ⟨_,_,_,_,_,_,_,h⟩
 have ax:Hid (Below w.heap.size w ((((w.alloc (.cells #[.bool L,.slice r n1 c1,.slice l j d1] 64)).alloc (.cells #[.bool I,.slice Q n2 c2,.slice G C N] 64)).alloc (.cells #[.bool false,.slice none 0 0,.slice none 0 0] 64)).drew)):=ze (zo (ext (ext (zf w (.cells #[.bool L,.slice r n1 c1,.slice l j d1] 64)) (zf _ (.cells #[.bool I,.slice Q n2 c2,.slice G C N] 64))) (zf _ (.cells #[.bool false,.slice none 0 0,.slice none 0 0] 64))) 1)
 go_enter func48,ntmps48
 go_wp2_with fail
 go_region_held3 (fun w' =>w'.cell? ⟨w.heap.size,0,none⟩=some (.bool L)/\w'.cell? ⟨w.heap.size,1,none⟩=some (.slice r n1 c1)/\w'.cell? ⟨w.heap.size,2,none⟩=some (.slice l j d1)/\w'.cell? ⟨w.heap.size+1,0,none⟩=some (.bool I)/\w'.cell? ⟨w.heap.size+1,1,none⟩=some (.slice Q n2 c2)/\w'.cell? ⟨w.heap.size+1,2,none⟩=some (.slice G C N)/\w.heap.size<w'.heap.size/\w.heap.size+1<w'.heap.size/\Hid (vZ w' (w.heap.size+1+1))/\Hid (Below w.heap.size w w'))
  (first
    | with_reducible exact ⟨by go_keep,by go_keep,by go_keep,by go_keep,by go_keep,by go_keep,by first | (simp;done) | (simp;omega),by first | (simp;done) | (simp;omega),aj,ax⟩
    | (go_split_ands;with_reducible exact ⟨zY (by omega) ‹_›,zY (by omega) ‹_›,zY (by omega) ‹_›,zY (by omega) ‹_›,zY (by omega) ‹_›,zY (by omega) ‹_›,xY ‹_›,xY ‹_›,vE ‹_›,vf (by omega) ‹_›⟩)
    | (go_split_ands;with_reducible exact ⟨zj ‹_› ‹_› ‹_›,zj ‹_› ‹_› ‹_›,zj ‹_› ‹_› ‹_›,zj ‹_› ‹_› ‹_›,zj ‹_› ‹_› ‹_›,zj ‹_› ‹_› ‹_›,zG ‹_› ‹_›,zG ‹_› ‹_›,xS ‹_› ‹_›,zr ‹_› ‹_›⟩)
    | go_keep)
  (first
    | (go_at_call_of 87 (Value.slice r n1 c1);refine (vt _ _ (x.num.natAbs) (y.den) _ (zy.below au.o (zK (by go_split_ands;assumption))) (zy.below ay.o (zK (by go_split_ands;assumption))) aD.o av.o).mono ?_;rintro e w1 ⟨v1,rfl,ac,R⟩;have u:=ze ac;clear ac;try replace M:=ze (zy.below M.o R))
    | (go_at_call_of 87 (Value.slice l j d1);refine (vt _ _ (x.den) (y.num.natAbs) _ (zy.below aq.o (zK (by go_split_ands;assumption))) (zy.below an.o (zK (by go_split_ands;assumption))) aC.o am.o).mono ?_;rintro e w2 ⟨v2,rfl,ad,S⟩;have M:=ze ad;clear ad;try replace u:=ze (zy.below u.o S))
    | (go_at_call 86;refine (ZO _ _ _ (x.num.natAbs*y.den) (x.den*y.num.natAbs) _ u.o M.o az.o aw.o al.o).mono ?_;rintro e wo ⟨vo,rfl,⟨D,E,O,z,J,K,F,rfl,ah,af,ag⟩,T⟩;obtain ⟨gr,Ar,kr,cr,Br,aE,aF,b⟩:=(xS (g:=w.heap.size+1+1) T (by go_split_ands;assumption)).out;have r0:=b.cell 0;have r1:=b.cell 1;have r2:=b.cell 2;have f0:=b.frozen 0;have f1:=b.frozen 1;have f2:=b.frozen 2;simp at r0 r1 r2;have aB:=ze ah;have ao:=ze af;have ap:=ze ag;have Z:=ze b;clear ah af ag b;try replace u:=ze (zy.below u.o T);try replace M:=ze (zy.below M.o T)))
 all_goals
  go_split_ands
  have Y:=yT (ng:=D) (A:=E) (n:=O) (c:=z) (B:=J) (m:=K) (d:=F) Z.o
  have aA:=yf (ng:=D) (A:=E) (n:=O) (c:=z) (B:=J) (m:=K) (d:=F) ao.o Z.o
  have ar:=yf (ng:=D) (A:=E) (n:=O) (c:=z) (B:=J) (m:=K) (d:=F) ap.o Z.o
  have ak:=zK (by assumption:Hid (Below w.heap.size w (World.ref wo (w.heap.size+1+1) D E O z J K F)))
  have V:=Y.cell 0
  have X:=Y.cell 1
  have U:=Y.cell 2
  simp only [World.ref] at V X U
  simp at V X U
  go_wp2
  refine bodyPost_ret (v:=.agg #[.bool D,.slice E O z,.slice J K F]) (by simp [results,results48,go_sem,V,X,U]) rfl ?_
  exact ⟨_,rfl,⟨_,_,_,_,_,_,_,rfl,aB.o,aA,ar⟩,ak⟩
theorem XE.neg {M:Nat} {x:Rat} (h:XE M x):XE M (-x):=by
 unfold XE at h |-
 rw [Rat.neg_num,Rat.neg_den,Int.natAbs_neg]
 exact h
theorem XE.mono {M K:Nat} {x:Rat} (h:XE M x) (hk:M<=K):XE K x:=⟨Nat.le_trans h.1 hk,Nat.le_trans h.2 hk⟩
theorem zjy (va:Value) (x:Rat) (w:World) (ha:xf w va x):
 Calls Tryz.prog 49 #[va] w (Vc w (-x)):=by
 obtain ⟨g,A,c,B,d,rfl,F,E,y⟩:=ha.form
 have z:(!g && decide (0<len 1000000000 x.num.natAbs))=decide ((-x).num<0):=by
  rw [Rat.neg_num,F]
  have J:=zbt (β:=1000000000) (n:=x.num.natAbs) (by omega)
  have I:=Vz (β:=1000000000)
  by_cases C:x.num<0
  . rw [decide_eq_true C,decide_eq_false (show ¬ -x.num<0 by omega)];rfl
  by_cases G:x.num=0
  . rw [G];rw [show (0:Int).natAbs=0 from rfl,I];decide
  rw [decide_eq_false C,decide_eq_true (show 0<len 1000000000 x.num.natAbs from J (by omega)),decide_eq_true (show -x.num<0 by omega)];rfl
 have u:=ze z
 have e:=ze E
 have r:=ze y
 obtain ⟨n,l⟩:∃ n,len 1000000000 x.num.natAbs=n:=⟨_,rfl⟩
 obtain ⟨m,j⟩:∃ m,len 1000000000 x.den=m:=⟨_,rfl⟩
 rw [l] at u e
 rw [j] at r
 rw [l,j]
 clear ha E y z F l j
 have D:=ze (show (-x).num.natAbs=x.num.natAbs by rw [Rat.neg_num,Int.natAbs_neg])
 have b:=ze (fun (v:Bool)=>ext (zf w (.cells #[.bool g,.slice A n c,.slice B m d] 64)) (zf (w.alloc (.cells #[.bool g,.slice A n c,.slice B m d] 64)) (.cells #[.bool v,.slice A n c,.slice B m d] 64)))
 cases g
 . go_enter func49,ntmps49
   go_wp2_with fail;refine bodyPost_ret (v:=.agg #[.bool (decide (0<n)),.slice A n c,.slice B m d]) (by simp [results,results49,go_sem]) rfl ?_;refine ⟨_,rfl,⟨_,_,_,_,_,_,_,rfl,u.o,?_,?_⟩,b.o _⟩
   . rw [D.o];exact zy.below e.o (b.o _)
   exact zy.below r.o (b.o _)
 go_enter func49,ntmps49
 go_wp2_with fail;refine bodyPost_ret (v:=.agg #[.bool false,.slice A n c,.slice B m d]) (by simp [results,results49,go_sem]) rfl ?_;refine ⟨_,rfl,⟨_,_,_,_,_,_,_,rfl,u.o,?_,?_⟩,b.o _⟩
 . rw [D.o];exact zy.below e.o (b.o _)
 exact zy.below r.o (b.o _)
theorem X9 (va:Value) (x:Rat) (w:World) (ha:xf w va x):
 Calls Tryz.prog 18 #[va] w (zfq w (.int .i64 x.num.sign)):=by
 obtain ⟨g,A,c,B,d,rfl,y,u,r⟩:=ha.form
 have b:=ze (zf w (.cells #[.bool g,.slice A (len 1000000000 x.num.natAbs) c,.slice B (len 1000000000 x.den) d] 64))
 by_cases e:x.num=0
 . have l:=ze (show x.num.sign=0 by rw [e];rfl)
   have j:len 1000000000 x.num.natAbs=0:=by rw [e];exact Vz _
   rw [j] at b |-;generalize len 1000000000 x.den=m at b |-;clear e y j ha u r
   go_enter func18,ntmps18
   go_wp2_with fail;go_ret;exact ⟨ZF l.o,b.o⟩
 have j:((len 1000000000 x.num.natAbs:Int) == 0)=false:=by
  rw [beq_eq_false_iff_ne];have:=zbt (β:=1000000000) (n:=x.num.natAbs) (by omega) (by omega);omega
 have l:=ze (show x.num.sign=if g then -1 else 1 by
  rw [y]
  by_cases z:x.num<0
  . rw [decide_eq_true z];simpa using Int.sign_eq_neg_one_of_neg z
  rw [decide_eq_false z];simpa using Int.sign_eq_one_of_pos (by omega))
 generalize len 1000000000 x.num.natAbs=n at b j ha u |-;generalize len 1000000000 x.den=m at b ha r |-;clear e y ha u r
 cases g
 . go_enter func18,ntmps18
   go_wp2_with fail;go_ret;exact ⟨ZF l.o,b.o⟩
 go_enter func18,ntmps18
 go_wp2_with fail;go_ret;exact ⟨ZF l.o,b.o⟩
theorem zp5 {a b:Nat}:decide (0<=zP (a:Int) (b:Int))=decide (b<=a):=by
 unfold zP
 rcases Nat.lt_trichotomy a b with h | h | h
 . rw [if_pos (by omega),decide_eq_false (show ¬ b<=a by omega)];rfl
 . rw [if_neg (by omega),if_neg (by omega),decide_eq_true (show b<=a by omega)];rfl
 . rw [if_neg (by omega),if_pos (by omega),decide_eq_true (show b<=a by omega)];rfl
theorem zb4 (va vb:Value) (x y:Rat) (w:World) (ha:xf w va x) (hb:xf w vb y) (hx:XE 8388608 x) (hy:XE 8388608 y):
 Calls Tryz.prog 83 #[va,vb] w (Vc w (x+y)):=by
 obtain ⟨L,V,n1,c1,Y,m1,d1,rfl,a2,a3,a1⟩:=ha
 obtain ⟨K,U,n2,c2,B2,X,Z,rfl,aV,aG,aC⟩:=hb
 have bh:=ze (Nat.le_trans hx.1 (show 8388608<=67108864 by omega))
 have a6:=ze (Nat.le_trans hx.2 (show 8388608<=67108864 by omega))
 have be:=ze (Nat.le_trans hy.1 (show 8388608<=67108864 by omega))
 have aW:=ze (Nat.le_trans hy.2 (show 8388608<=67108864 by omega))
 have aZ:=XM hx.1 hy.2
 have aY:=XM hy.1 hx.2
 have aD:=ze (Nat.le_trans aZ (show 8388608+8388608<=67108864 by omega))
 have aF:=ze (Nat.le_trans aY (show 8388608+8388608<=67108864 by omega))
 have aT:=ze (Nat.le_trans (XM hx.2 hy.2) (show 8388608+8388608<=33554432 by omega))
 have bi:=ze (show len 1000000000 (x.num.natAbs*y.den+y.num.natAbs*x.den)<=33554432 from Nat.le_trans (zox (by omega) _ _) (by omega))
 have bd:=ze (show len 1000000000 (x.num.natAbs*y.den - y.num.natAbs*x.den)<=33554432 from Nat.le_trans (vI (by omega) (Nat.sub_le _ _)) (by omega))
 have bb:=ze (show len 1000000000 (y.num.natAbs*x.den - x.num.natAbs*y.den)<=33554432 from Nat.le_trans (vI (by omega) (Nat.sub_le _ _)) (by omega))
 have aK:=ze (show 0<x.den*y.den from Nat.mul_pos x.den_pos y.den_pos)
 have bf:=ze a3
 have aU:=ze a1
 have bc:=ze aG
 have a9:=ze aC
 have aB:=ze a2
 have aO:=ze aV
 clear a3 a1 aG aC hx hy a2 aV aZ aY
 have ae:Hid (vZ ((((w.alloc (.cells #[.bool L,.slice V n1 c1,.slice Y m1 d1] 64)).alloc (.cells #[.bool K,.slice U n2 c2,.slice B2 X Z] 64)).alloc (.cells #[.bool false,.slice none 0 0,.slice none 0 0] 64)).drew) (w.heap.size+1+1)):=by
  have h:=(Blk.new ((w.alloc (.cells #[.bool L,.slice V n1 c1,.slice Y m1 d1] 64)).alloc (.cells #[.bool K,.slice U n2 c2,.slice B2 X Z] 64)) 64 #[.bool false,.slice none 0 0,.slice none 0 0]).drew
  simp only [World.size_alloc] at h
  exact ⟨_,_,_,_,_,_,_,h⟩
 have ag:Hid (Below w.heap.size w ((((w.alloc (.cells #[.bool L,.slice V n1 c1,.slice Y m1 d1] 64)).alloc (.cells #[.bool K,.slice U n2 c2,.slice B2 X Z] 64)).alloc (.cells #[.bool false,.slice none 0 0,.slice none 0 0] 64)).drew)):=ze (zo (ext (ext (zf w (.cells #[.bool L,.slice V n1 c1,.slice Y m1 d1] 64)) (zf _ (.cells #[.bool K,.slice U n2 c2,.slice B2 X Z] 64))) (zf _ (.cells #[.bool false,.slice none 0 0,.slice none 0 0] 64))) 1)
 go_enter func83,ntmps83
 go_wp2_with fail
 go_region_held3 (fun w' =>w'.cell? ⟨w.heap.size,0,none⟩=some (.bool L)/\w'.cell? ⟨w.heap.size,1,none⟩=some (.slice V n1 c1)/\w'.cell? ⟨w.heap.size,2,none⟩=some (.slice Y m1 d1)/\w'.cell? ⟨w.heap.size+1,0,none⟩=some (.bool K)/\w'.cell? ⟨w.heap.size+1,1,none⟩=some (.slice U n2 c2)/\w'.cell? ⟨w.heap.size+1,2,none⟩=some (.slice B2 X Z)/\w.heap.size<w'.heap.size/\w.heap.size+1<w'.heap.size/\Hid (vZ w' (w.heap.size+1+1))/\Hid (Below w.heap.size w w'))
  (first
    | with_reducible exact ⟨by go_keep,by go_keep,by go_keep,by go_keep,by go_keep,by go_keep,by first | (simp;done) | (simp;omega),by first | (simp;done) | (simp;omega),ae,ag⟩
    | (go_split_ands;with_reducible exact ⟨zY (by omega) ‹_›,zY (by omega) ‹_›,zY (by omega) ‹_›,zY (by omega) ‹_›,zY (by omega) ‹_›,zY (by omega) ‹_›,xY ‹_›,xY ‹_›,vE ‹_›,vf (by omega) ‹_›⟩)
    | (go_split_ands;with_reducible exact ⟨zj ‹_› ‹_› ‹_›,zj ‹_› ‹_› ‹_›,zj ‹_› ‹_› ‹_›,zj ‹_› ‹_› ‹_›,zj ‹_› ‹_› ‹_›,zj ‹_› ‹_› ‹_›,zG ‹_› ‹_›,zG ‹_› ‹_›,xS ‹_› ‹_›,zr ‹_› ‹_›⟩)
    | go_keep)
  (first
    | (go_at_call_of 87 (Value.slice V n1 c1);refine (vt _ _ x.num.natAbs y.den _ (zy.below bf.o (zK (by go_split_ands;assumption))) (zy.below a9.o (zK (by go_split_ands;assumption))) bh.o aW.o).mono ?_;rintro e w1 ⟨v1,rfl,a0,aG⟩;have I:=ze a0;clear a0;try replace G:=ze (zy.below G.o aG))
    | (go_at_call_of 87 (Value.slice U n2 c2);refine (vt _ _ y.num.natAbs x.den _ (zy.below bc.o (zK (by go_split_ands;assumption))) (zy.below aU.o (zK (by go_split_ands;assumption))) be.o a6.o).mono ?_;rintro e w2 ⟨v2,rfl,a8,aC⟩;have G:=ze a8;clear a8;try replace I:=ze (zy.below I.o aC)))
 all_goals
  go_split_ands
  have aE:Hid (Below w.heap.size w w2):=by assumption
  have a7:Hid (vZ w2 (w.heap.size+1+1)):=by assumption
  go_wp2_with fail
  refine (vt _ _ x.den y.den w2 (zy.below aU.o aE.o) (zy.below a9.o aE.o) a6.o aW.o).mono ?_
  rintro e b ⟨v3,rfl,a4,j⟩
  have ac:=ze a4
  have S :=ze (zy.below I.o j)
  have T :=ze (zy.below G.o j)
  have ab:=ze (ext aE.o j)
  have aa:=xS j a7
  have j0:b.cell? ⟨w.heap.size,0,none⟩=some (.bool L):=zj j ‹_› ‹_›
  have j1:b.cell? ⟨w.heap.size,1,none⟩=some (.slice V n1 c1):=zj j ‹_› ‹_›
  have j2:b.cell? ⟨w.heap.size,2,none⟩=some (.slice Y m1 d1):=zj j ‹_› ‹_›
  have j3:b.cell? ⟨w.heap.size+1,0,none⟩=some (.bool K):=zj j ‹_› ‹_›
  have j4:b.cell? ⟨w.heap.size+1,1,none⟩=some (.slice U n2 c2):=zj j ‹_› ‹_›
  have j5:b.cell? ⟨w.heap.size+1,2,none⟩=some (.slice B2 X Z):=zj j ‹_› ‹_›
  have l0:w.heap.size<b.heap.size:=zG j ‹_›
  have l1:w.heap.size+1<b.heap.size:=zG j ‹_›
  clear a4 j I G a7 aE ae ag
  have I:=S
  have G:=T
  clear S T
  by_cases an:L=K
  . have bg:(L == K)=true:=by rw [beq_iff_eq];exact an
    have J:=ze (zh8 (x:=x) (y:=y) (by rw [<- aB.o, <- aO.o];exact an));rw [<- aB.o] at J;have ar:=bi;clear an;go_wp2_with fail;have ae:=ze (show vZ b.drew (w.heap.size+1+1) from aa.o);have ag:=ze (show Below w.heap.size w b.drew from zo ab.o 1)
    go_region_held3 (fun w' =>w'.cell? ⟨w.heap.size,0,none⟩=some (.bool L)/\w'.cell? ⟨w.heap.size,1,none⟩=some (.slice V n1 c1)/\w'.cell? ⟨w.heap.size,2,none⟩=some (.slice Y m1 d1)/\w'.cell? ⟨w.heap.size+1,0,none⟩=some (.bool K)/\w'.cell? ⟨w.heap.size+1,1,none⟩=some (.slice U n2 c2)/\w'.cell? ⟨w.heap.size+1,2,none⟩=some (.slice B2 X Z)/\w.heap.size<w'.heap.size/\w.heap.size+1<w'.heap.size/\Hid (vZ w' (w.heap.size+1+1))/\Hid (Below w.heap.size w w'))
     (first
       | with_reducible exact ⟨by go_keep,by go_keep,by go_keep,by go_keep,by go_keep,by go_keep,by assumption,by assumption,ae,ag⟩
       | (go_split_ands;with_reducible exact ⟨zY (by omega) ‹_›,zY (by omega) ‹_›,zY (by omega) ‹_›,zY (by omega) ‹_›,zY (by omega) ‹_›,zY (by omega) ‹_›,xY ‹_›,xY ‹_›,vE ‹_›,vf (by omega) ‹_›⟩)
       | (go_split_ands;with_reducible exact ⟨zj ‹_› ‹_› ‹_›,zj ‹_› ‹_› ‹_›,zj ‹_› ‹_› ‹_›,zj ‹_› ‹_› ‹_›,zj ‹_› ‹_› ‹_›,zj ‹_› ‹_› ‹_›,zG ‹_› ‹_›,zG ‹_› ‹_›,xS ‹_› ‹_›,zr ‹_› ‹_›⟩)
       | go_keep)
     (first
       | (go_at_call 131;refine (zrp _ _ (x.num.natAbs*y.den) (y.num.natAbs*x.den) _ (zy.below I.o (show Below b.heap.size b b.drew from zD b 1)) (zy.below G.o (show Below b.heap.size b b.drew from zD b 1)) aD.o aF.o).mono ?_;rintro e w5 ⟨v5,rfl,af,ao⟩;have aw:=ze af;have ap:=ze (zy.below ac.o (ext (show Below b.heap.size b b.drew from zD b 1) ao));clear af)
       | (go_at_call 86;refine (ZO _ _ _ (x.num.natAbs*y.den+y.num.natAbs*x.den) (x.den*y.den) _ aw.o ap.o aK.o ar.o aT.o).mono ?_;rintro e wo ⟨vo,rfl,⟨C,u,F,r,D,E,z,rfl,aj,ah,ad⟩,az⟩;obtain ⟨gr,Ar,kr,cr,Br,aX,ba,l⟩:=(xS (g:=w.heap.size+1+1) az (by go_split_ands;assumption)).out;have r0:=l.cell 0;have r1:=l.cell 1;have r2:=l.cell 2;have f0:=l.frozen 0;have f1:=l.frozen 1;have f2:=l.frozen 2;simp at r0 r1 r2;have ax:=ze aj;have aA:=ze ah;have au:=ze ad;have R:=ze l;clear aj ah ad l))
    all_goals
     go_split_ands;have O:=yT (ng:=C) (A:=u) (n:=F) (c:=r) (B:=D) (m:=E) (d:=z) R.o;have aq:=yf (ng:=C) (A:=u) (n:=F) (c:=r) (B:=D) (m:=E) (d:=z) aA.o R.o;have av:=yf (ng:=C) (A:=u) (n:=F) (c:=r) (B:=D) (m:=E) (d:=z) au.o R.o;have ay:=zK (by assumption:Hid (Below w.heap.size w (World.ref wo (w.heap.size+1+1) C u F r D E z)));have M:=O.cell 0;have N:=O.cell 1;have Q:=O.cell 2;simp only [World.ref] at M N Q;simp at M N Q;go_wp2;refine bodyPost_ret (v:=.agg #[.bool C,.slice u F r,.slice D E z]) (by simp [results,results83,go_sem,M,N,Q]) rfl ?_;exact ⟨_,rfl,⟨_,_,_,_,_,_,_,rfl,(by rw [J.o];exact ax.o),(by rw [J.o];exact aq),(by rw [J.o];exact av)⟩,ay⟩
  have bg:(L == K)=false:=by rw [beq_eq_false_iff_ne];exact an
  have a5:=ze (show decide (x.num<0)≠decide (y.num<0) by rw [<- aB.o, <- aO.o];exact an);clear an
  by_cases ai:y.num.natAbs*x.den<=x.num.natAbs*y.den
  . have aP:0<=zP ((x.num.natAbs*y.den:Nat):Int) ((y.num.natAbs*x.den:Nat):Int):=of_decide_eq_true (by rw [zp5,decide_eq_true ai])
    have J:=ze (zms a5.o ai);have aS:=ze ai;rw [<- aB.o] at J;have ar:=bd;clear ai;go_wp2_with fail;refine (Zw _ _ (x.num.natAbs*y.den) (y.num.natAbs*x.den) b I.o G.o aD.o aF.o).mono ?_;rintro e W3 ⟨rfl,n,rfl⟩;generalize zP ((x.num.natAbs*y.den:Nat):Int) ((y.num.natAbs*x.den:Nat):Int)=cv at aP |-;have j:=zD b n;have S :=ze (zy.below I.o j);have T :=ze (zy.below G.o j);have al :=ze (zy.below ac.o j);have am :=ze (ext ab.o j);have ak :=xS j aa;have aQ :=zj j l0 j0;have aN :=zj j l0 j1;have aL :=zj j l0 j2;have aJ :=zj j l1 j3;have aI :=zj j l1 j4;have aM :=zj j l1 j5;have aR :=zG j l0;have aH :=zG j l1;clear j I G ac ab aa j0 j1 j2 j3 j4 j5 l0 l1;generalize b.drewN n=b at S T al am ak aQ aN aL aJ aI aM aR aH |-;have I:=S;have G:=T;have ac:=al;have ab:=am;have aa:=ak;clear S T al am ak;go_wp2_with fail;have ae:=ze (show vZ b.drew (w.heap.size+1+1) from aa.o);have ag:=ze (show Below w.heap.size w b.drew from zo ab.o 1)
    go_region_held3 (fun w' =>w'.cell? ⟨w.heap.size,0,none⟩=some (.bool L)/\w'.cell? ⟨w.heap.size,1,none⟩=some (.slice V n1 c1)/\w'.cell? ⟨w.heap.size,2,none⟩=some (.slice Y m1 d1)/\w'.cell? ⟨w.heap.size+1,0,none⟩=some (.bool K)/\w'.cell? ⟨w.heap.size+1,1,none⟩=some (.slice U n2 c2)/\w'.cell? ⟨w.heap.size+1,2,none⟩=some (.slice B2 X Z)/\w.heap.size<w'.heap.size/\w.heap.size+1<w'.heap.size/\Hid (vZ w' (w.heap.size+1+1))/\Hid (Below w.heap.size w w'))
     (first
       | with_reducible exact ⟨by go_keep,by go_keep,by go_keep,by go_keep,by go_keep,by go_keep,by assumption,by assumption,ae,ag⟩
       | (go_split_ands;with_reducible exact ⟨zY (by omega) ‹_›,zY (by omega) ‹_›,zY (by omega) ‹_›,zY (by omega) ‹_›,zY (by omega) ‹_›,zY (by omega) ‹_›,xY ‹_›,xY ‹_›,vE ‹_›,vf (by omega) ‹_›⟩)
       | (go_split_ands;with_reducible exact ⟨zj ‹_› ‹_› ‹_›,zj ‹_› ‹_› ‹_›,zj ‹_› ‹_› ‹_›,zj ‹_› ‹_› ‹_›,zj ‹_› ‹_› ‹_›,zj ‹_› ‹_› ‹_›,zG ‹_› ‹_›,zG ‹_› ‹_›,xS ‹_› ‹_›,zr ‹_› ‹_›⟩)
       | go_keep)
     (first
       | (go_at_call 133;refine (Vk _ _ (x.num.natAbs*y.den) (y.num.natAbs*x.den) _ (zy.below I.o (show Below b.heap.size b b.drew from zD b 1)) (zy.below G.o (show Below b.heap.size b b.drew from zD b 1)) aS.o aD.o).mono ?_;rintro e w5 ⟨v5,rfl,af,ao⟩;have aw:=ze af;have ap:=ze (zy.below ac.o (ext (show Below b.heap.size b b.drew from zD b 1) ao));clear af)
       | (go_at_call 86;refine (ZO _ _ _ (x.num.natAbs*y.den - y.num.natAbs*x.den) (x.den*y.den) _ aw.o ap.o aK.o ar.o aT.o).mono ?_;rintro e wo ⟨vo,rfl,⟨C,u,F,r,D,E,z,rfl,aj,ah,ad⟩,az⟩;obtain ⟨gr,Ar,kr,cr,Br,aX,ba,l⟩:=(xS (g:=w.heap.size+1+1) az (by go_split_ands;assumption)).out;have r0:=l.cell 0;have r1:=l.cell 1;have r2:=l.cell 2;have f0:=l.frozen 0;have f1:=l.frozen 1;have f2:=l.frozen 2;simp at r0 r1 r2;have ax:=ze aj;have aA:=ze ah;have au:=ze ad;have R:=ze l;clear aj ah ad l))
    all_goals
     go_split_ands;have O:=yT (ng:=C) (A:=u) (n:=F) (c:=r) (B:=D) (m:=E) (d:=z) R.o;have aq:=yf (ng:=C) (A:=u) (n:=F) (c:=r) (B:=D) (m:=E) (d:=z) aA.o R.o;have av:=yf (ng:=C) (A:=u) (n:=F) (c:=r) (B:=D) (m:=E) (d:=z) au.o R.o;have ay:=zK (by assumption:Hid (Below w.heap.size w (World.ref wo (w.heap.size+1+1) C u F r D E z)));have M:=O.cell 0;have N:=O.cell 1;have Q:=O.cell 2;simp only [World.ref] at M N Q;simp at M N Q;go_wp2;refine bodyPost_ret (v:=.agg #[.bool C,.slice u F r,.slice D E z]) (by simp [results,results83,go_sem,M,N,Q]) rfl ?_;exact ⟨_,rfl,⟨_,_,_,_,_,_,_,rfl,(by rw [J.o];exact ax.o),(by rw [J.o];exact aq),(by rw [J.o];exact av)⟩,ay⟩
  have aP:¬ 0<=zP ((x.num.natAbs*y.den:Nat):Int) ((y.num.natAbs*x.den:Nat):Int):=of_decide_eq_false (by rw [zp5,decide_eq_false ai])
  have J:=ze (zl2 a5.o (Nat.lt_of_not_le ai));have aS:=ze (Nat.le_of_lt (Nat.lt_of_not_le ai));rw [<- aO.o] at J;have ar:=bb;clear ai;go_wp2_with fail;refine (Zw _ _ (x.num.natAbs*y.den) (y.num.natAbs*x.den) b I.o G.o aD.o aF.o).mono ?_;rintro e W3 ⟨rfl,n,rfl⟩;generalize zP ((x.num.natAbs*y.den:Nat):Int) ((y.num.natAbs*x.den:Nat):Int)=cv at aP |-;have j:=zD b n;have S :=ze (zy.below I.o j);have T :=ze (zy.below G.o j);have al :=ze (zy.below ac.o j);have am :=ze (ext ab.o j);have ak :=xS j aa;have aQ :=zj j l0 j0;have aN :=zj j l0 j1;have aL :=zj j l0 j2;have aJ :=zj j l1 j3;have aI :=zj j l1 j4;have aM :=zj j l1 j5;have aR :=zG j l0;have aH :=zG j l1;clear j I G ac ab aa j0 j1 j2 j3 j4 j5 l0 l1;generalize b.drewN n=b at S T al am ak aQ aN aL aJ aI aM aR aH |-;have I:=S;have G:=T;have ac:=al;have ab:=am;have aa:=ak;clear S T al am ak;go_wp2_with fail;have ae:=ze (show vZ b.drew (w.heap.size+1+1) from aa.o)
  have ag:=ze (show Below w.heap.size w b.drew from zo ab.o 1)
  go_region_held3 (fun w' =>w'.cell? ⟨w.heap.size,0,none⟩=some (.bool L)/\w'.cell? ⟨w.heap.size,1,none⟩=some (.slice V n1 c1)/\w'.cell? ⟨w.heap.size,2,none⟩=some (.slice Y m1 d1)/\w'.cell? ⟨w.heap.size+1,0,none⟩=some (.bool K)/\w'.cell? ⟨w.heap.size+1,1,none⟩=some (.slice U n2 c2)/\w'.cell? ⟨w.heap.size+1,2,none⟩=some (.slice B2 X Z)/\w.heap.size<w'.heap.size/\w.heap.size+1<w'.heap.size/\Hid (vZ w' (w.heap.size+1+1))/\Hid (Below w.heap.size w w'))
   (first
     | with_reducible exact ⟨by go_keep,by go_keep,by go_keep,by go_keep,by go_keep,by go_keep,by assumption,by assumption,ae,ag⟩
     | (go_split_ands;with_reducible exact ⟨zY (by omega) ‹_›,zY (by omega) ‹_›,zY (by omega) ‹_›,zY (by omega) ‹_›,zY (by omega) ‹_›,zY (by omega) ‹_›,xY ‹_›,xY ‹_›,vE ‹_›,vf (by omega) ‹_›⟩)
     | (go_split_ands;with_reducible exact ⟨zj ‹_› ‹_› ‹_›,zj ‹_› ‹_› ‹_›,zj ‹_› ‹_› ‹_›,zj ‹_› ‹_› ‹_›,zj ‹_› ‹_› ‹_›,zj ‹_› ‹_› ‹_›,zG ‹_› ‹_›,zG ‹_› ‹_›,xS ‹_› ‹_›,zr ‹_› ‹_›⟩)
     | go_keep)
   (first
     | (go_at_call 133;refine (Vk _ _ (y.num.natAbs*x.den) (x.num.natAbs*y.den) _ (zy.below G.o (show Below b.heap.size b b.drew from zD b 1)) (zy.below I.o (show Below b.heap.size b b.drew from zD b 1)) aS.o aF.o).mono ?_;rintro e w5 ⟨v5,rfl,af,ao⟩;have aw:=ze af;have ap:=ze (zy.below ac.o (ext (show Below b.heap.size b b.drew from zD b 1) ao));clear af)
     | (go_at_call 86;refine (ZO _ _ _ (y.num.natAbs*x.den - x.num.natAbs*y.den) (x.den*y.den) _ aw.o ap.o aK.o ar.o aT.o).mono ?_;rintro e wo ⟨vo,rfl,⟨C,u,F,r,D,E,z,rfl,aj,ah,ad⟩,az⟩;obtain ⟨gr,Ar,kr,cr,Br,aX,ba,l⟩:=(xS (g:=w.heap.size+1+1) az (by go_split_ands;assumption)).out;have r0:=l.cell 0;have r1:=l.cell 1;have r2:=l.cell 2;have f0:=l.frozen 0;have f1:=l.frozen 1;have f2:=l.frozen 2;simp at r0 r1 r2;have ax:=ze aj;have aA:=ze ah;have au:=ze ad;have R:=ze l;clear aj ah ad l))
  all_goals
   go_split_ands;have O:=yT (ng:=C) (A:=u) (n:=F) (c:=r) (B:=D) (m:=E) (d:=z) R.o;have aq:=yf (ng:=C) (A:=u) (n:=F) (c:=r) (B:=D) (m:=E) (d:=z) aA.o R.o;have av:=yf (ng:=C) (A:=u) (n:=F) (c:=r) (B:=D) (m:=E) (d:=z) au.o R.o;have ay:=zK (by assumption:Hid (Below w.heap.size w (World.ref wo (w.heap.size+1+1) C u F r D E z)));have M:=O.cell 0;have N:=O.cell 1;have Q:=O.cell 2;simp only [World.ref] at M N Q;simp at M N Q;go_wp2;refine bodyPost_ret (v:=.agg #[.bool C,.slice u F r,.slice D E z]) (by simp [results,results83,go_sem,M,N,Q]) rfl ?_;exact ⟨_,rfl,⟨_,_,_,_,_,_,_,rfl,(by rw [J.o];exact ax.o),(by rw [J.o];exact aq),(by rw [J.o];exact av)⟩,ay⟩
theorem zid (M:Nat) (q:Rat):(!decide (yo M q))=(decide (M<(dec q.num.natAbs).length) || decide (M<(dec q.den).length)):=by
 by_cases b:(dec q.num.natAbs).length<=M
 rotate_left
 . rw [decide_eq_false (fun h:yo M q=>b h.1),decide_eq_true (show M<(dec q.num.natAbs).length by omega)];rfl
 by_cases e:(dec q.den).length<=M
 . rw [decide_eq_true (show yo M q from ⟨b,e⟩),decide_eq_false (by omega),decide_eq_false (by omega)];rfl
 rw [decide_eq_false (fun h:yo M q=>e h.2),decide_eq_true (show M<(dec q.den).length by omega),Bool.or_true];rfl
theorem zf3 (va:Value) (q:Rat) (M:Nat) (w:World) (ha:xf w va q) (hl:XE 33554432 q) (hM:M<=50000):
 Calls Tryz.prog 21 #[va,.int .i64 (M:Int)] w (zfq w (.bool (!decide (yo M q)))):=by
 obtain ⟨ng,A,c,B,d,rfl,G,E,C⟩:=ha.form
 have b:=ze (zf w (.cells #[.bool ng,.slice A (len 1000000000 q.num.natAbs) c,.slice B (len 1000000000 q.den) d] 64))
 have r:=ze (zy.below E b.o)
 have u:=ze (zy.below C b.o)
 have y:=ze hl.1
 have F:=ze hl.2
 have j:=ze (zid M q)
 generalize len 1000000000 q.num.natAbs=n at r b u |-
 generalize len 1000000000 q.den=m at r b u |-
 clear ha E C G hl
 by_cases z:M<(dec q.num.natAbs).length
 . have l :=ze (show (!decide (yo M q))=true by rw [j.o,decide_eq_true z];rfl)
   clear j
   go_enter func21,ntmps21
   go_wp2_with fail;refine (xQ _ q.num.natAbs _ r.o y.o).mono ?_;rintro e w1 ⟨rfl,rfl⟩;go_wp2_with fail;go_ret;exact ⟨yd l.o,b.o⟩
 by_cases D:M<(dec q.den).length
 . have l :=ze (show (!decide (yo M q))=true by rw [j.o,decide_eq_true D,Bool.or_true])
   clear j
   go_enter func21,ntmps21
   go_wp2_with fail;refine (xQ _ q.num.natAbs _ r.o y.o).mono ?_;rintro e w1 ⟨rfl,rfl⟩;go_wp2_with fail;refine (xQ _ q.den _ u.o F.o).mono ?_;rintro e w1 ⟨rfl,rfl⟩;go_wp2_with fail;go_ret;exact ⟨yd l.o,b.o⟩
 have l :=ze (show (!decide (yo M q))=false by rw [j.o,decide_eq_false z,decide_eq_false D];rfl)
 clear j
 go_enter func21,ntmps21
 go_wp2_with fail;refine (xQ _ q.num.natAbs _ r.o y.o).mono ?_;rintro e w1 ⟨rfl,rfl⟩;go_wp2_with fail;refine (xQ _ q.den _ u.o F.o).mono ?_;rintro e w1 ⟨rfl,rfl⟩;go_wp2_with fail;go_ret;exact ⟨yd l.o,b.o⟩
theorem zqz {l:List UInt8} {q:Rat} (h:zp l=some q):XE 50000 q:=by
 have:=(xe.1 h).2
 exact ⟨Nat.le_trans (ZQ (by omega)) this.1,Nat.le_trans (ZQ (by omega)) this.2⟩
theorem zsm (s:ByteArray) (w:World) (hs:s.size<=1073741824):
 Calls Tryz.prog 130 #[.string s] w (zbj w (.bool (vQ (bts s)))):=by
 by_cases r:s.size=0
 . have X:=zgf r
   have b:=ze (show vQ (bts s)=false by unfold vQ;rw [zm,r];rfl);clear r
   go_enter func130,ntmps130
   go_wp2_with fail;go_ret;exact ⟨yd b.o,rfl⟩
 have y:0<s.size:=by omega
 have S:=XR y;clear r
 by_cases V:16<s.size
 . have b:=ze (show vQ (bts s)=false by unfold vQ;rw [zm,decide_eq_false (show ¬ s.size<=16 by omega)];simp)
   go_enter func130,ntmps130
   go_wp2_with fail;go_ret;exact ⟨yd b.o,rfl⟩
 cases hl:zgy s[0] with
 | false=>
   have b:=ze (zl1 y hl)
   have B:s[0].toNat<97\/122<s[0].toNat:=by
    have:¬ (97<=s[0].toNat/\s[0].toNat<=122):=by intro h;rw [Xt.2 h] at hl;cases hl
    omega
   rcases B with B | B
   . clear hl
     go_enter func130,ntmps130
     go_wp2_with fail;go_ret;exact ⟨yd b.o,rfl⟩
   . have D:¬ s[0].toNat<97:=by omega
     clear hl
     go_enter func130,ntmps130
     go_wp2_with fail;go_ret;exact ⟨yd b.o,rfl⟩
 | true=>
   obtain ⟨M,D⟩:=Xt.1 hl;have L:¬ s[0].toNat<97:=by omega
   have Q:¬ 122<s[0].toNat:=by omega
   have N:=ze hl;have K:=ze (show s.size<=16 by omega);clear hl M D
   go_enter func130,ntmps130
   go_wp2_with fail
   go_loop [3] (fun iv=>∃ k:Nat,k<=s.size/\iv= .int .i64 k/\Hid (∀ j (h:j<s.size),j<k->yI s[j]=true)) (fun iv=>s.size - (intOf iv).toNat)
   case atStart=>exact ⟨0,Nat.zero_le _,rfl,fun j _ h=>by omega⟩
   case round=>
    obtain ⟨k,U,rfl,E⟩:=hrel;clear L Q
    by_cases I:k<s.size
    rotate_left
    . obtain rfl:k=s.size:=by omega
      have b:=ze (zky y K.o N.o (fun j u=>E.o j u u));go_wp2_with fail;go_ret;exact ⟨yd b.o,rfl⟩
    cases hd:yI s[k] with
    | true=>
      have J:=ze hd
      have G:∀ j (h:j<s.size),j<k+1->yI s[j]=true:=by
       intro j u T
       rcases Nat.lt_or_ge j k with m | m
       . exact E.o j u m
       . obtain rfl:j=k:=by omega
         exact J.o
      have z:=ze G;clear G
      rcases zb3 hd with ⟨e,F⟩ | ⟨e,F,m⟩ | e
      . clear hd
        go_wp2_with fail;go_round
        case rel=>exact ⟨k+1,by omega,by go_num,z.o⟩
        case measure=>simp [intOf];omega
      . have l:¬ 97<=s[k].toNat:=by omega
        clear hd m;go_wp2_with fail;go_round
        case rel=>exact ⟨k+1,by omega,by go_num,z.o⟩
        case measure=>simp [intOf];omega
      . have l:¬ 97<=s[k].toNat:=by omega
        have C:¬ 48<=s[k].toNat:=by omega
        have R:((s[k].toNat:Int) != 45)=false:=by rw [e];rfl
        clear hd;clear e;go_wp2_with fail;go_round
        case rel=>exact ⟨k+1,by omega,by go_num,z.o⟩
        case measure=>simp [intOf];omega
    | false=>
      have b:=ze (zlx I hd)
      have R:((s[k].toNat:Int) != 45)=true:=by
       rw [bne_iff_ne];have:=YV hd
       omega
      rcases YV hd with ⟨e,_⟩ | ⟨e,F⟩ | e
      . have l:¬ 97<=s[k].toNat:=by omega
        have C:¬ 48<=s[k].toNat:=by omega
        clear hd;go_wp2_with fail;go_ret;exact ⟨yd b.o,rfl⟩
      . have l:¬ 97<=s[k].toNat:=by omega
        have C:48<=s[k].toNat:=by omega
        have O:decide ((s[k].toNat:Int)<=57)=false:=by rw [decide_eq_false_iff_not];omega
        clear hd;go_wp2_with fail;go_ret;exact ⟨yd b.o,rfl⟩
      . have l:97<=s[k].toNat:=by omega
        have C:48<=s[k].toNat:=by omega
        have O:decide ((s[k].toNat:Int)<=57)=false:=by rw [decide_eq_false_iff_not];omega
        have Y:decide ((s[k].toNat:Int)<=122)=false:=by rw [decide_eq_false_iff_not];omega
        clear hd;go_wp2_with fail;go_ret;exact ⟨yd b.o,rfl⟩
def zyf (u:Nat) (w:World) (uv ov:Value) (wr:World):Prop:=
 ∃ (r:Nat) (O:List Nat),uv= .int .u64 r/\Hid (r<=u/\val 1000000000 O+r*1000000000 ^ O.length=u)/\Hid (zI 1000000000 O)/\Hid (r=0->yW 1000000000 O)/\Hid (wr.ownsRow w.heap.size 3 1 ov O.length (Yd O))/\Hid (Below w.heap.size w wr)
theorem zyf.step {u r:Nat} {O:List Nat} (h:val 1000000000 O+r*1000000000 ^ O.length=u):val 1000000000 (O ++ [r % 1000000000])+r / 1000000000*1000000000 ^ (O ++ [r % 1000000000]).length=u:=by
 rw [Yb,List.length_append,List.length_singleton,Nat.pow_succ, <- h]
 have b:=Nat.div_add_mod r 1000000000
 generalize 1000000000 ^ O.length=X
 have e:r*X=(1000000000*(r / 1000000000)+r % 1000000000)*X:=by rw [b]
 rw [e,Nat.add_mul,Nat.mul_comm X 1000000000, <- Nat.mul_assoc,Nat.mul_comm (r / 1000000000) 1000000000,Nat.mul_comm X (r % 1000000000)]
 omega
theorem zqk {u r:Nat} {O:List Nat} (h:val 1000000000 O+r*1000000000 ^ O.length=u) (hu:u<18446744073709551616) (hr:0<r):O.length<=2:=by
 apply Classical.byContradiction
 intro e
 have b:1000000000 ^ 3<=1000000000 ^ O.length:=Nat.pow_le_pow_right (by omega) (by omega)
 have j:=Nat.mul_le_mul hr b
 omega
theorem zp6 (u:Nat) (w:World) (hu:u<18446744073709551616):Calls Tryz.prog 82 #[.int .u64 (u:Int)] w (zfc w u):=by
 obtain ⟨I,Q,R,G,V⟩:=info_parts zev
 have z:=ze hu
 clear hu
 go_enter func82,ntmps82
 go_wp2_with fail
 go_loopw [0,3] (zyf u w) (fun uv _ _=>(intOf uv).toNat)
 case atStart=>exact ⟨u,[],rfl,⟨Nat.le_refl _,by simp [val]⟩,zI.nil _,fun _=>yW.nil _,World.ownsRow_nil _ _ _ _,vh _⟩
 case round=>
  obtain ⟨r,O,rfl,e,E,K,l,j⟩:=hrel
  have Z:r<18446744073709551616:=Nat.lt_of_le_of_lt e.o.1 z.o
  by_cases X:0<r
  rotate_left
  . obtain rfl:r=0:=by omega
    obtain ⟨A,c,rfl,M,S,C⟩:=VU l.o;have U:=ze C;have b:=e.o.2;rw [Nat.zero_mul,Nat.add_zero] at b;have Y:=ze b;have L:=ze (K.o rfl);clear C b;go_wp2_with fail;go_ret;exact ⟨_,rfl,⟨A,c,O,rfl,M,S,U.o,L.o,Y.o⟩,j.o⟩
  have aa:=zqk e.o.2 z.o X
  have y:(r % 1000000000:Nat)<1000000000:=Nat.mod_lt _ (by omega);have m:=xJ wr 3 (.int .i64 ((r:Int) % 1000000000))
  have F:∀ v∈[Value.int .i64 ((r:Int) % 1000000000)],v.oneCell' =true:=by
   intro v b;rw [List.mem_singleton] at b;subst b;rfl
  have ab:(0:Int)<(r:Int):=by omega
  go_wp2_with (at_builtin;refine yj _ rfl (.tmp 6) (.tmp 10) _ rfl w.heap.size 3 I _ 1 8 underlying62 Q R G V rfl (by omega) _ O.length (Yd O) rfl (l.o.alloc _) _ (some ⟨wr.heap.size,0,none⟩) 1 1 _ rfl m F ?o2 ?o3 ?o4 ?_)
  case o2=>unfold maxLen;omega
  case o3=>omega
  case o4=>have:=j.o.size;simp;omega
  intro v3 w3 B D T;have N:=ze B;have J:Hid (Below w.heap.size w w3):=ze ((j.o.alloc j.o.size _).grown D (by have:=j.o.size;simp;omega) (fun k hk=>(l.o.lt k hk).1));clear B D T m F;go_wp2_with fail;go_roundw
  case rel=>
   refine ⟨r / 1000000000,O ++ [r % 1000000000],by go_num,⟨Nat.le_trans (Nat.div_le_self _ _) e.o.1,zyf.step e.o.2⟩,E.o.append (zI.cons y (zI.nil _)),fun h=>?_,?_,J.o⟩
   rotate_left
   . rw [List.length_append,VP]
     exact N.o
   refine yW.mk_ (E.o.append (zI.cons y (zI.nil _))) (fun _=>?_)
   simp
   omega
  case measure=>simp [intOf];omega
theorem ze9 (u:Nat) (w:World) (hu:u<9223372036854775808):Calls Tryz.prog 46 #[.int .i64 (u:Int)] w (Vc w (u:Rat)):=by
 have I:=fun w=>zp6 u w (by omega)
 have F:=zf w (.cells #[.bool false,.slice none 0 0,.slice none 0 0] 64)
 have G:=ze (Blk.new w 64 #[.bool false,.slice none 0 0,.slice none 0 0])
 have K:=ze F
 clear F
 go_enter func46,ntmps46
 go_wp2_with fail
 refine (I _).mono ?_
 rintro e w1 ⟨v,rfl,D,l⟩
 have j:=zf w1 (.cells #[.int .i64 1] 3)
 have E:=zeg w1 (d:=1) (by omega) (by omega)
 have N:=ze (zy.below D j)
 have O:=ze E
 have b:=ze (G.o.below (ext l j) G.o.lt)
 have R:=ze (ext K.o (ext l j))
 obtain ⟨A,n,c,rfl⟩:∃ A n c,v= .slice A n c:=by obtain ⟨A,c,ds,rfl,_⟩:=D;exact ⟨_,_,_,rfl⟩
 have M:=b.o.cell 0
 have T:=b.o.cell 1
 have L:=b.o.cell 2
 have V:=b.o.frozen 0
 have f1:=b.o.frozen 1
 have f2:=b.o.frozen 2
 have U:=b.o.lt
 simp at M T L
 clear l E D j I
 go_wp2_with fail
 have C:=yT (ng:=false) (A:=A) (n:=n) (c:=c) (B:=some ⟨w1.heap.size,0,none⟩) (m:=1) (d:=1) b.o
 have Q:=yf (ng:=false) (A:=A) (n:=n) (c:=c) (B:=some ⟨w1.heap.size,0,none⟩) (m:=1) (d:=1) N.o b.o
 have S:=yf (ng:=false) (A:=A) (n:=n) (c:=c) (B:=some ⟨w1.heap.size,0,none⟩) (m:=1) (d:=1) O.o b.o
 have y:=C.cell 0
 have z:=C.cell 1
 have r:=C.cell 2
 simp only [World.ref] at y z r
 simp at y z r
 refine bodyPost_ret (v:=.agg #[.bool false,.slice A n c,.slice (some ⟨w1.heap.size,0,none⟩) 1 1]) (by simp [results,results46,go_sem,y,z,r]) rfl ?_
 have J:((u:Rat)).num=(u:Int):=rfl
 exact ⟨_,rfl,⟨_,_,_,_,_,_,_,rfl,(decide_eq_false (by rw [J];omega)).symm,by rw [J];exact Q,S⟩,yK (w:=w) (g:=w.heap.size) R.o (Nat.le_refl _)⟩
theorem xf.stored {W:World} {g:Nat} {v:Value} {q:Rat} {t' :TypeId} {ng n0:Bool} {A B A0 B0:Option Addr} {n c m d k0 c0 k1 c1:Nat} (h:xf W v q)
 (hk:Blk W g t' #[.bool n0,.slice A0 k0 c0,.slice B0 k1 c1]):xf (World.ref W g ng A n c B m d) v q:=by
 obtain ⟨C,z,u,l,r,y,D,rfl,b,j,e⟩:=h
 exact ⟨_,_,_,_,_,_,_,rfl,b,yf j hk,yf e hk⟩
theorem Dz.nlen {e:Nat} {q:Rat} (h:Dz e q):XE (e+1) q:=
 have b:=Dz.short h (Nat.lt_succ_self e)
 ⟨Nat.le_trans (ZQ (by omega)) b.1,Nat.le_trans (ZQ (by omega)) b.2⟩
end Go.Proofs.YthbmhkiphmcogaaGreatDoor
