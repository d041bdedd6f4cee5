/- Parts of the proof. -/
import Derived.Test.YtobdoblpnanclaaGreatDoorMo19
import Derived.Test.YtobdoblpnanclaaGreatDoorMo20
import Derived.IntWalk
import Derived.Test.YtobdoblpnanclaaGreatDoorMo11
import Derived.Test.YtobdoblpnanclaaGreatDoorMo14
set_option linter.all false
set_option maxHeartbeats 32000000
namespace Go.Proofs.YtobdoblpnanclaaGreatDoor
open Proofs.Tryz Go.RowKit Go.Deep
attribute [local go_sem ↓] Go.wp_at_zero Go.wp_at_succ
def TrmR (w0:World) (b B:Nat) (tv:Value) (l:List zr) (kv:Value) (wr:World):Prop:=
 ∃ k:Nat,k<=l.length/\kv= .int .i64 k/\Hid (∀ j,j<k->vj l j=0)/\Hid (zu wr b)/\Hid (zh wr B tv l)/\Hid (Chg (· =b) w0 wr)
theorem zcl (s:List UInt8) (w:World) (hs:yc s):Calls prog 49 #[str s] w (zaw w (.bool (Ze s))):=by
 have h:=zlx ⟨s.toArray⟩ w (by rw [<- zt,yG];exact hs)
 rw [yG] at h
 exact h
set_option maxRecDepth 100000 in
theorem zeh (b:Nat) (A:Option Addr) (n c:Nat) (l:List zr) (w:World) (hB:zu w b) (ht:yu w (.slice A n c) l):Calls prog 30 #[.map (some b),.slice A n c] w (XX b (yh l) w):=by
 obtain rfl:=ht.len
 have aG:=ht.bound
 have m:=ze hB
 have y:=ze ht
 have r:=ze (Chg.refl (S:=(· =b)) w)
 clear hB ht
 go_in
 go_wp2
 go_loopw [12] (TrmR w b w.heap.size (.slice A l.length c) l) (fun kv _=>l.length - (intOf kv).toNat)
 case atStart=>exact ⟨0,uB,rfl,(fun j h=>by omega),m,y,r⟩
 case round=>
  clear m y r
  obtain ⟨k,hk,rfl,F,m,y,r⟩:=hrel
  by_cases L:k<l.length
  rotate_left
  . obtain rfl:l.length=k:=by omega
    have E:Hid (yh l=0):=yT.2 F.o;go_wp2;go_ret;exact ⟨by rw [E.o];rfl,m.o,r.o⟩
  have aE:(k:Int)<(l.length:Int):=by omega
  obtain ⟨ad,eA,ac,X,U,ag,av⟩:=y.o.at_ L;subst eA;have D:=zf wr (.cells #[str l[k].name,str l[k].coef] 44);have B:=ze (Blk.new wr 44 #[str l[k].name,str l[k].coef]);replace m:=ze (m.o.below D);replace y:=ze (zh.below y.o D);replace r:=ze (zD r.o D);have ar:=xGD (d:=default) L;have aq:=ze ar;have aB:=ze av;have Y:=fun w=>zcl l[k].name w ag
  clear D ar ag av
  go_upto_region 4 with fail
  clear X U ac;generalize wr.alloc (.cells #[str l[k].name,str l[k].coef] 44)=WL at B m y r |-;generalize wr.heap.size=gt at B |-;have X:=(bq1 B).1
  cases hin:Ze l[k].name with
  | false=>
    rw [hin] at Y;have z:Hid (vj l k=5):=by show vj l k=5;unfold vj;rw [aq.o,hin];rfl
    have E:Hid (yh l=5):=(xQ L F.o (by rw [z.o];decide)).trans z.o;clear hin;go_wp2_with fail;refine (Y _).mono ?_;rintro e w1 ⟨rfl,rfl⟩;go_wp2;go_ret;exact ⟨by rw [E.o];rfl,m.o,r.o⟩
  | true=>
    rw [hin] at Y;have af:=ze hin;have an:=xu b ⟨l[k].coef.toArray⟩ WL m.o (by rw [<- zt,yG];exact aB.o);rw [yG] at an;have ay:=ze an;have U:=B.o.cell 1;simp at U;clear hin an;go_wp2_with fail;refine (Y _).mono ?_;rintro e w1 ⟨rfl,rfl⟩;clear Y;go_wp2_with fail;refine ay.o.mono ?_;rintro e w2 ⟨v,ok,rfl,⟨x1,A1,k1,c1,s1,y1,B1,ak,ao,t1,rfl⟩,ae,hq,au,ah⟩;clear ay X U;replace y:=ze (m.o.keepT ah y.o);replace B:=ze (m.o.keepBlk ah B.o);replace r:=ze (yp r.o ah);replace m:=ze au;have D:=zf w2 (.cells #[.int .i64 x1,.slice A1 k1 c1,.bool s1,.int .i64 y1,.slice B1 ak ao,.bool t1] 60);replace m:=ze (m.o.below D);replace y:=ze (zh.below y.o D);replace B:=kb_ B D;replace r:=ze (zD r.o D);have HX:=ze D;clear au ah D
    have I:Ze l[k].name=true->xZ l[k].coef≠0->vj l k=xZ l[k].coef:=fun h1 h2=>by
     unfold vj;rw [aq.o,h1,if_neg (by decide),if_pos h2]
    cases hr:zj l[k].coef with
    | none=>
      rw [hr] at ae;subst ae;have e4:xZ l[k].coef=4:=by unfold xZ;rw [hr]
      have z:Hid (vj l k=4):=(I af.o (by rw [e4];decide)).trans e4;have E:Hid (yh l=4):=(xQ L F.o (by rw [z.o];decide)).trans z.o;clear hq hr I e4;go_wp2;go_ret;exact ⟨by rw [E.o];rfl,m.o,r.o⟩
    | some q=>
      rw [hr] at ae;subst ae;have J:=ze (Blk.new w2 60 #[.int .i64 x1,.slice A1 k1 c1,.bool s1,.int .i64 y1,.slice B1 ak ao,.bool t1]);have R:=ze ((hq q hr).below HX.o);have ax:=ze (zgo hr);have C:xZ l[k].coef=if q=0 then 1 else if yz 12 q then 0 else 3:=by unfold xZ;rw [hr]
      clear hq hr HX
      go_upto_region 7 with fail
      generalize w2.alloc (.cells #[.int .i64 x1,.slice A1 k1 c1,.bool s1,.int .i64 y1,.slice B1 ak ao,.bool t1] 60)=W2 at m y B r J R |-;generalize w2.heap.size=gx at J |-;obtain ⟨r0,r1,r2,r3,r4,r5,_⟩:=bq6 J;have O:=xK _ q W2 R.o
      by_cases T:q=0
      . have e0:XG q 0=0:=by subst T;rfl
        rw [e0] at O;have Z:=ze O;rw [if_pos T] at C;have z:Hid (vj l k=1):=(I af.o (by rw [C];decide)).trans C;have E:Hid (yh l=1):=(xQ L F.o (by rw [z.o];decide)).trans z.o;clear I C T e0 O;go_wp2_with fail;refine Z.o.mono ?_;rintro e w3 ⟨rfl,u⟩;replace m:=ze (m.o.below u);replace r:=ze (zD r.o u);clear u Z;go_wp2;go_ret;exact ⟨by rw [E.o];rfl,m.o,r.o⟩
      obtain ⟨sg,al⟩:=uR (XG q 0)
      have d1:(sg == 0)=false:=by
       rw [beq_eq_false_iff_ne, <- al];unfold XG;intro h
       split at h
       . omega
       split at h
       . omega
       next h1 h2=>exact T (Rat.le_antisymm (Rat.not_lt.1 h2) (Rat.not_lt.1 h1))
      rw [al] at O;have Z:=ze O;rw [if_neg T] at C;clear O al T;go_wp2_with fail;refine Z.o.mono ?_;rintro e w3 ⟨rfl,u⟩;replace m:=ze (m.o.below u);replace y:=ze (zh.below y.o u);replace B:=kb_ B u;replace r:=ze (zD r.o u);replace J:=kb_ J u;replace R:=ze (R.o.below u);clear u Z r0 r1 r2 r3 r4 r5;obtain ⟨r0,r1,r2,r3,r4,r5,_⟩:=bq6 J;have N:=zfe _ q 12 w3 R.o ax.o (by omega) (by omega)
      by_cases V:yz 12 q
      rotate_left
      . rw [uF V] at N
        rw [if_neg V] at C;have aa:=ze N;have z:Hid (vj l k=3):=(I af.o (by rw [C];decide)).trans C;have E:Hid (yh l=3):=(xQ L F.o (by rw [z.o];decide)).trans z.o;clear N V C I;go_wp2_with fail;refine aa.o.mono ?_;rintro e w4 ⟨rfl,u⟩;replace m:=ze (m.o.below u);replace r:=ze (zD r.o u);clear u aa;go_wp2;go_ret;exact ⟨by rw [E.o];rfl,m.o,r.o⟩
      rw [uE V] at N
      rw [if_pos V] at C;have aa:=ze N;clear N V;go_wp2_with fail;refine aa.o.mono ?_;rintro e w4 ⟨rfl,u⟩;replace m:=ze (m.o.below u);replace y:=ze (zh.below y.o u);replace B:=kb_ B u;replace r:=ze (zD r.o u);clear u aa r0 r1 r2 r3 r4 r5 J R ax
      go_upto_region 13 with fail
      obtain ⟨G,aw⟩:=uQ (k - 1);have az:G<l.length:=by omega
      obtain ⟨aH,ai,ac,X,U,ag,_⟩:=y.o.at_ az;injection ai with ai
      subst ai;have aJ:max ((k:Int) - 1) 0=(G:Int):=by omega
      have aF:IntKind.i64.wrap ((k:Int) - 1)=(k:Int) - 1:=by rw [IntKind.wrap_i64];omega
      have aI:(G:Int)<(l.length:Int):=by omega
      have t0:=(bq1 B).1;have tL:=B.o.lt;have aL:ad.block<w4.heap.size:=uK ac r.o.size;obtain ⟨Q,aj⟩:=uR (yM l[G].name l[k].name (decide (k=0)));have ap:=fun w=>zev l[G].name l[k].name (decide (k=0)) w
      rw [aj] at ap;have dk:((k:Int) == 0)=decide (k=0):=by by_cases h:k=0<;>simp [h]
      have z:Hid (vj l k=Q):=by
       show vj l k=Q
       unfold vj;rw [aq.o,af.o,if_neg (by decide),if_neg (by rw [C];decide), <- aj];have aD:l.getD (k - 1) default=l[G]:=by rw [<- aw];simp [List.getD,List.getElem?_eq_getElem az]
       rw [aD]
      have aA:=ze ap;clear aj ap C I U ag ac aw;have am:∀ w',Hid (Below w4.heap.size w4 w')->w'.cell? (ad.add (G*2))=some (str l[G].name)/\w'.cell? ⟨gt,0,none⟩=some (str l[k].name):=fun w' hB=>⟨zs4 hB aL X,zl hB tL t0⟩
      refine y8 am 11 1 12 (zv w4) fun hU=>?_;simp only [xDR]
      iterate 11 refine zH ?_
      refine zB ?_;refine rK 11 fun K hK=>?_
      go_simp
      go_at_call 51;refine (aA.o _).mono ?_;rintro e w5 ⟨rfl,rfl⟩;refine hK.out _ _ (zm (hU.1) (am _)) ?_;clear hK K hU;intro hU
      try simp only [Act.put,xST]
      have ab:=(hU.1).out;replace m:=ze (zu.below m.o ab);replace y:=ze (zh.below y.o ab);replace r:=ze (zD r.o ab);clear ab hU am;refine hdn ?_;simp only [xDR];clear X t0 tL aL aA
      by_cases M:Q=0
      rotate_left
      . have d1:(Q != 0)=true:=by rw [bne_iff_ne];exact M
        have E:Hid (yh l=Q):=(xQ L F.o (by rw [z.o];exact M)).trans z.o;clear M F;go_wp2;go_ret;exact ⟨by rw [E.o];rfl,m.o,r.o⟩
      have d1:(Q != 0)=false:=by rw [bne_eq_false_iff_eq];exact M
      have aC:Hid (∀ j,j<k+1->vj l j=0):=fun j hj=>by
       by_cases e:j=k
       . subst e;exact z.o.trans M
       exact F.o j (by omega)
      clear M F;go_wp2;go_roundw
      case rel=>exact ⟨k+1,by omega,by go_num,aC,m,y,r⟩
      case measure=>simp [intOf];omega
set_option maxRecDepth 100000 in
theorem zr2 (b:Nat) (A:Option Addr) (n c:Nat) (r:zS) (w:World) (hB:zu w b) (ht:yu w (.slice A n c) r.terms) (hs:yc r.bound):Calls prog 67 #[.map (some b),.agg #[.slice A n c,str r.bound]] w (XX b (xz r) w):=by
 have l:=zf w (.cells #[.slice A n c,str r.bound] 31)
 obtain ⟨F,D⟩:∃ x,x=w.alloc (.cells #[.slice A n c,str r.bound] 31):=⟨_,rfl⟩
 have C:=Blk.new w 31 #[.slice A n c,str r.bound]
 rw [<- D] at l C
 have B:=ze C
 have j:=ze (hB.below l)
 have u:Hid (Chg (· =b) w F):=Chg.of_below l
 have K:=zeh b A n c r.terms F j.o ((zh.below ht l).more l.size)
 have G:=fun w' (h:zu w' b)=>zlv b r.bound w' h hs
 have L:=ze G
 have I:=ze K
 clear hB ht hs l C K G
 go_in
 go_upto_region 1 with fail
 rw [<- D]
 clear D
 generalize w.heap.size=gr at B |-
 have r0:=(bq1 B).1
 go_wp2_with fail
 refine I.o.mono ?_
 rintro e N ⟨rfl,z,m⟩
 replace B:=ze (j.o.keepBlk m B.o)
 replace u:=ze (yp u.o m)
 replace j:=ze z
 clear z m I r0
 by_cases y:yh r.terms=0
 . have M:(yh r.terms != 0)=false:=by rw [bne_eq_false_iff_eq];exact y
   have E:=ze (show xz r=xP r.bound by unfold xz;rw [if_neg (by rw [y];decide)]);have J:=B.o.cell 1;simp at J;clear y;go_wp2_with fail;refine (L.o _ j.o).mono ?_;rintro e w2 ⟨rfl,z,m⟩;replace u:=ze (yp u.o m);replace j:=ze z;clear z m L J;go_wp2;go_ret;exact ⟨by rw [E.o];rfl,j.o,u.o⟩
 have M:(yh r.terms != 0)=true:=by rw [bne_iff_ne];exact y
 have E:=ze (show xz r=yh r.terms by unfold xz;rw [if_pos y]);clear y;go_wp2;go_ret;exact ⟨by rw [E.o];rfl,j.o,u.o⟩
def zut (M:Nat) (q:Rat):Prop:=len 1000000000 q.num.natAbs<=M/\len 1000000000 q.den<=M
end Go.Proofs.YtobdoblpnanclaaGreatDoor
