/- Parts of the proof. -/
import Derived.IntWalk
import Derived.Test.YthbmhkiphmcogaaGreatDoorMe10
set_option linter.all false
set_option maxRecDepth 100000
set_option maxHeartbeats 32000000
namespace Go.Proofs.YthbmhkiphmcogaaGreatDoor
open Proofs.Tryz Go.RowKit Go.Deep
def yc (w:World) (v:Value) (q:Rat):Prop:=
 ∃ x A k c s y B k' c' t,v= .agg #[.int .i64 x,.slice A k c,.bool s,.int .i64 y,.slice B k' c',.bool t]/\yb w (.agg #[.int .i64 x,.slice A k c,.bool s]) q.num/\yb w (.agg #[.int .i64 y,.slice B k' c',.bool t]) (q.den:Int)
def zdv (w:World) (q:Rat) (e:Ending) (w' :World):Prop:=∃ v,e= .returned v/\yc w' v q/\Below w.heap.size w w'
theorem yc.below {w w' :World} {v:Value} {q:Rat} (h:yc w v q) (hb:Below w.heap.size w w'):yc w' v q:=by
 obtain ⟨x,A,k,c,s,y,B,k',c',t,b,j,e⟩:=h
 exact ⟨x,A,k,c,s,y,B,k',c',t,b,j.below hb,e.below hb⟩
def zoi (w:World) (q:Rat) (wr:World):Prop:=
 ∃ x A k c s y B k' c' t zn zd,yb wr (.agg #[.int .i64 x,.slice A k c,.bool s]) zn/\yb wr (.agg #[.int .i64 y,.slice B k' c',.bool t]) zd/\
  Blk wr w.heap.size 53 #[.int .i64 x,.slice A k c,.bool s]/\Blk wr (w.heap.size+1) 53 #[.int .i64 y,.slice B k' c',.bool t]/\
  Blk wr (w.heap.size+1+1) 55 #[.int .i64 0,.slice none 0 0,.bool false,.int .i64 0,.slice none 0 0,.bool false]/\Below w.heap.size w wr/\0<zd/\Hid (Rat.divInt zn zd=q)/\Hid (len 4294967296 zn.natAbs<=33554432)/\Hid (len 4294967296 zd.natAbs<=33554432)
theorem yb.small {w:World} {x z:Int} {k c:Nat} {s:Bool} (h:yb w (.agg #[.int .i64 x,.slice none k c,.bool s]) z):k=0/\c=0/\z=x/\ -4611686018427387904<x/\x<4611686018427387904:=by
 obtain ⟨C,A,k',c',B,e,y,u,l⟩:=h.form
 injection e with e
 have b:=congrArg (fun a=>a.toList) e
 simp at b
 obtain ⟨rfl,⟨rfl,rfl,rfl⟩,rfl⟩:=b
 obtain ⟨r,m,j⟩:=l rfl
 exact ⟨r,m,j,y,u⟩
def EucR (x y:Nat) (w:World) (av bv:Value) (wr:World):Prop:=∃ a b nq:Nat,wr=w.drewN nq/\av= .int .u64 a/\bv= .int .u64 b/\a<4611686018427387904/\b<4611686018427387904/\Hid (Nat.gcd a b=Nat.gcd x y)
theorem zce (z:Int) (m:Nat) (hm:0<m):(Rat.divInt z m).num=z.tdiv ((Nat.gcd z.natAbs m:Nat):Int)/\((Rat.divInt z m).den:Int)=(m:Int) / ((Nat.gcd z.natAbs m:Nat):Int):=by
 have e:(m:Int).gcd z=Nat.gcd z.natAbs m:=by show Nat.gcd _ _=_;rw [Int.natAbs_natCast,Nat.gcd_comm]
 have b:(m:Int).sign=1:=Int.sign_eq_one_of_pos (by omega)
 constructor
 . rw [Rat.num_divInt,e,b,Int.one_mul,Int.tdiv_eq_ediv_of_dvd]
   exact Int.ofNat_dvd_left.2 (Nat.gcd_dvd_left _ _)
 rw [Rat.den_divInt,if_neg (by omega),e,Int.natAbs_natCast]
 rfl
theorem zoi.negs {w W:World} {z y x2 x3 x0 y0:Int} {A2 A3 A0 B0:Option Addr} {k2 c2 k3 c3 k0 c0 k0' c0' :Nat} {s2 s3 s0 t0:Bool} (hA:yb W (.agg #[.int .i64 x2,.slice A2 k2 c2,.bool s2]) (-z)) (hB:yb W (.agg #[.int .i64 x3,.slice A3 k3 c3,.bool s3]) (-y))
 (kA:Blk W w.heap.size 53 #[.int .i64 x0,.slice A0 k0 c0,.bool s0]) (kB:Blk W (w.heap.size+1) 53 #[.int .i64 y0,.slice B0 k0' c0',.bool t0])
 (kC:Blk W (w.heap.size+1+1) 55 #[.int .i64 0,.slice none 0 0,.bool false,.int .i64 0,.slice none 0 0,.bool false]) (hW:Below w.heap.size w W) (hy:y<0)
 (hlz:len 4294967296 z.natAbs<=33554432) (hly:len 4294967296 y.natAbs<=33554432):
 zoi w (Rat.divInt z y) (World.num (World.num W w.heap.size x2 A2 k2 c2 s2) (w.heap.size+1) x3 A3 k3 c3 s3):=by
 have b:=vX (g' :=w.heap.size) (x:=x2) (A:=A2) (k:=k2) (c:=c2) (ng:=s2) kB (by omega)
 have j:=vX (g' :=w.heap.size) (x:=x2) (A:=A2) (k:=k2) (c:=c2) (ng:=s2) kC (by omega)
 have e:=ys (x:=x2) (A:=A2) (k:=k2) (c:=c2) (ng:=s2) kA
 exact ⟨_,_,_,_,_,_,_,_,_,_,_,_,zC (zC hA kA) b,zC (zC hB kA) b,vX e (by omega),ys b,vX j (by omega),
  zW (zW hW (Nat.le_refl _)) (by omega),by omega,Rat.neg_divInt_neg z y,ze (by rw [Int.natAbs_neg];exact hlz),ze (by rw [Int.natAbs_neg];exact hly)⟩
abbrev World.rat (w:World) (g:Nat) (x:Int) (A:Option Addr) (k c:Nat) (s:Bool) (y:Int) (B:Option Addr) (k' c' :Nat) (t:Bool):World:=
 ((((((w.setCell ⟨g,0,none⟩ (.int .i64 x)).setCell ⟨g,1,none⟩ (.slice A k c)).setCell ⟨g,2,none⟩ (.bool s)).setCell ⟨g,3,none⟩ (.int .i64 y)).setCell ⟨g,4,none⟩ (.slice B k' c')).setCell ⟨g,5,none⟩ (.bool t))
theorem XJ (x:Int) (A:Option Addr) (k c:Nat) (s:Bool) (y:Int) (B:Option Addr) (k' c' :Nat) (t:Bool):Ze #[.int .i64 x,.slice A k c,.bool s,.int .i64 y,.slice B k' c',.bool t]:=by
 intro i d h
 match i with
 | 0=>simp at h
 | 1=>simp at h
 | 2=>simp at h
 | 3=>simp at h
 | 4=>simp at h
 | 5=>simp at h
 | n+6=>simp at h
section
variable {W w:World} {g:Nat} {t' :TypeId} {x x0 y y0 z:Int} {A A0 B B0:Option Addr} {k c k' c' k0 c0 k1 c1:Nat} {s s0 t t0:Bool} {v:Value}
theorem yx (hk:Blk W g t' #[.int .i64 x0,.slice A0 k0 c0,.bool s0,.int .i64 y0,.slice B0 k1 c1,.bool t0]):
 Blk (World.rat W g x A k c s y B k' c' t) g t' #[.int .i64 x,.slice A k c,.bool s,.int .i64 y,.slice B k' c',.bool t]:=(((((hk.set_ 0 _).set_ 1 _).set_ 2 _).set_ 3 _).set_ 4 _).set_ 5 _
theorem yz (hv:yb W v z) (hk:Blk W g t' #[.int .i64 x0,.slice A0 k0 c0,.bool s0,.int .i64 y0,.slice B0 k1 c1,.bool t0]):yb (World.rat W g x A k c s y B k' c' t) v z:=by
 refine hv.stored hk (XJ _ _ _ _ _ _ _ _ _ _) ?_ (by simp [World.rat,World.setCell])
 intro p b
 simp only [World.rat]
 rw [World.cell?_setCell_other,World.cell?_setCell_other,World.cell?_setCell_other,World.cell?_setCell_other,World.cell?_setCell_other,World.cell?_setCell_other]
 all_goals (intro e;subst e;exact b rfl)
theorem yu (h:Below w.heap.size w W) (hg:w.heap.size<=g):Below w.heap.size w (World.rat W g x A k c s y B k' c' t):=
 (((((h.setCell hg _).setCell hg _).setCell hg _).setCell hg _).setCell hg _).setCell hg _
theorem zbi {g' :Nat} {cs:Array Value} (hk:Blk W g t' cs) (hne:g≠g'):Blk (World.rat W g' x A k c s y B k' c' t) g t' cs:=
 (((((hk.far hne _).far hne _).far hne _).far hne _).far hne _).far hne _
end
theorem V3 {zn zd:Int} (h:0<zd) (hl:len 4294967296 zd.natAbs<=33554432):
 (Rat.divInt zn zd).num=zn.tdiv ((Nat.gcd zn.natAbs zd.natAbs:Nat):Int)/\((Rat.divInt zn zd).den:Int)=zd.tdiv ((Nat.gcd zn.natAbs zd.natAbs:Nat):Int)/\0<Nat.gcd zn.natAbs zd.natAbs/\len 4294967296 (Nat.gcd zn.natAbs zd.natAbs)<=33554432:=by
 obtain ⟨m,rfl⟩:=Int.eq_ofNat_of_zero_le (Int.le_of_lt h)
 have b:0<m:=by omega
 obtain ⟨e,j⟩:=zce zn m b
 refine ⟨e,?_,Nat.gcd_pos_of_pos_right _ b,Nat.le_trans (vI (by omega) (Nat.gcd_le_right _ b)) hl⟩
 rw [j,Int.tdiv_eq_ediv_of_nonneg (by omega)]
 rfl
theorem zvu {w1 w2 w3 w4 w5:World} {g:Nat} {t:TypeId} {cs:Array Value} (h:Blk w1 g t cs) (h1:Below w1.heap.size w1 w2) (h2:Below w2.heap.size w2 w3) (h3:Below w3.heap.size w3 w4) (h4:Below w4.heap.size w4 w5):Blk w5 g t cs:=
 h.below (ext (ext (ext h1 h2) h3) h4) h.lt
theorem Yp (va vb:Value) (z y:Int) (w:World) (ha:yb w va z) (hb:yb w vb y) (hy:y≠0) (hla:len 4294967296 z.natAbs<=33554432) (hlb:len 4294967296 y.natAbs<=33554432):
 Calls Tryz.prog 54 #[va,vb] w (zdv w (Rat.divInt z y)):=by
 have bM :=ha
 have bJ :=hb
 obtain ⟨x1,A,k,c,s,rfl,h1,h2,hA⟩:=bM.form
 obtain ⟨y1,B,k',c',t,rfl,h3,h4,hB⟩:=bJ.form
 have aI:=ze hlb
 have aq:=ze hla
 have hW:=ext (ext (zf w (.cells #[.int .i64 x1,.slice A k c,.bool s] 53)) (zf _ (.cells #[.int .i64 y1,.slice B k' c',.bool t] 53))) (zf _ (.cells #[.int .i64 0,.slice none 0 0,.bool false,.int .i64 0,.slice none 0 0,.bool false] 55))
 have S:=((Blk.new w 53 #[.int .i64 x1,.slice A k c,.bool s]).alloc (.cells #[.int .i64 y1,.slice B k' c',.bool t] 53)).alloc (.cells #[.int .i64 0,.slice none 0 0,.bool false,.int .i64 0,.slice none 0 0,.bool false] 55)
 have Q:=(Blk.new (w.alloc (.cells #[.int .i64 x1,.slice A k c,.bool s] 53)) 53 #[.int .i64 y1,.slice B k' c',.bool t]).alloc (.cells #[.int .i64 0,.slice none 0 0,.bool false,.int .i64 0,.slice none 0 0,.bool false] 55)
 have kC:=Blk.new ((w.alloc (.cells #[.int .i64 x1,.slice A k c,.bool s] 53)).alloc (.cells #[.int .i64 y1,.slice B k' c',.bool t] 53)) 55 #[.int .i64 0,.slice none 0 0,.bool false,.int .i64 0,.slice none 0 0,.bool false]
 simp only [World.size_alloc] at Q kC
 have bb:=ze (ha.below hW)
 have aV:=ze (hb.below hW)
 have HW:=ze hW
 have af:=ze S
 have T:=ze Q
 have ac:=ze kC
 clear hla hlb hW S Q kC hA hB ha hb bM bJ h1 h2 h3 h4
 go_enter func54,ntmps54
 go_upto_if 14 with (first | (go_at_call 36;refine (X4 _ y _ aV.o).mono ?_;rintro e w1 ⟨rfl,aQ⟩))
 have S:=af.o.below aQ af.o.lt
 have Q:=T.o.below aQ T.o.lt
 have kC:=ac.o.below aQ ac.o.lt
 have hA:=bb.o.below aQ
 have hB:=aV.o.below aQ
 have bw:=ext HW.o aQ
 clear af T ac bb aV HW aQ
 go_cut [] (fun wx=>zoi w (Rat.divInt z y) wx)
 case first=>
  rcases (show y<0\/(¬ y<0/\0<y) by omega) with br | ⟨br,bL⟩
  . have hc:zP y 0= -1:=by unfold zP;rw [if_pos br]
    rw [hc];have a0:=S.cell 0;have N:=S.cell 1;have M:=S.cell 2;have b0:=Q.cell 0;have b1:=Q.cell 1;have b2:=Q.cell 2;simp at a0 N M b0 b1 b2;have af:=ze (S.drewN 1);have T:=ze (Q.drewN 1);have ac:=ze (kC.drewN 1);have bb:=ze (hA.below (zD w1 1));have aV:=ze (hB.below (zD w1 1));have bN:=ze (zo bw 1);clear S Q kC hA hB bw;go_wp2_with fail
    go_region_with (first
     | (go_at_call_of 72 (Value.agg #[.int .i64 x1,.slice A k c,.bool s]);refine (yY _ z _ (by first | exact bb.o | exact bb.o.below ar)).mono ?_;rintro e w2 ⟨v,rfl,ao,ap⟩;obtain ⟨x2,A2,k2,c2,s2,rfl,_,_,_⟩:=ao.form;have av:Blk w2 w.heap.size _ _:=(by first | exact af.o.below ap af.o.lt | exact aC.below ap aC.lt);have aD:Blk w2 (w.heap.size+1) _ _:=(by first | exact T.o.below ap T.o.lt | exact au.below ap au.lt);have bz:Blk w2 (w.heap.size+1+1) _ _:=(by first | exact ac.o.below ap ac.o.lt | exact bu.below ap bu.lt);have bY:=av.cell 0;have co:=av.frozen 0;have b6:=av.cell 1;have b9:=av.frozen 1;have bZ:=av.cell 2;have cd:=av.frozen 2;have b4:=aD.cell 0;have cp:=aD.frozen 0;have bX:=aD.cell 1;have cm:=aD.frozen 1;have bQ:=aD.cell 2;have ci:=aD.frozen 2;simp at bY b6 bZ b4 bX bQ)
     | (go_at_call_of 72 (Value.agg #[.int .i64 y1,.slice B k' c',.bool t]);refine (yY _ y _ (by first | exact aV.o | exact aV.o.below ap)).mono ?_;rintro e w3 ⟨v,rfl,bD,ar⟩;obtain ⟨x3,A3,k3,c3,s3,rfl,_,_,_⟩:=bD.form;have aC:Blk w3 w.heap.size _ _:=(by first | exact af.o.below ar af.o.lt | exact av.below ar av.lt);have au:Blk w3 (w.heap.size+1) _ _:=(by first | exact T.o.below ar T.o.lt | exact aD.below ar aD.lt);have bu:Blk w3 (w.heap.size+1+1) _ _:=(by first | exact ac.o.below ar ac.o.lt | exact bz.below ar bz.lt);have bW:=aC.cell 0;have cu:=aC.frozen 0;have b5:=aC.cell 1;have cs:=aC.frozen 1;have a32:=aC.cell 2;have ca:=aC.frozen 2;have bS:=au.cell 0;have cv:=au.frozen 0;have bP:=au.cell 1;have ce:=au.frozen 1;have b7:=au.cell 2;have cj:=au.frozen 2;simp at bW b5 a32 bS bP b7))
    all_goals
     go_wp2;go_meet
     case rel=>
      first
       | exact zoi.negs (ao.below ar) bD aC au bu (ext (ext bN.o ap) ar) br aq.o aI.o
       | exact zoi.negs ao (bD.below ap) av aD bz (ext (ext bN.o ar) ap) br aq.o aI.o
  . have hc:zP y 0=1:=by unfold zP;rw [if_neg br,if_pos bL]
    rw [hc];go_wp2;go_meet
    case rel=>exact ⟨_,_,_,_,_,_,_,_,_,_,_,_,hA,hB,S,Q,kC,bw,bL,rfl,aq,aI⟩
 case rest=>
  obtain ⟨x2,A2,k2,c2,s2,y2,B2,k3,c3,t2,zn,zd,hA,hB,S,Q,kC,hW,aU,HQ,aI,aq⟩:=hcut
  clear hy
  have q1:=fun w=>znp w A2 k2 c2 0 0
  have q2:=fun w=>znp w B2 k3 c3 0 0
  have a0:=S.cell 0
  have N:=S.cell 1
  have M:=S.cell 2
  have b0:=Q.cell 0
  have b1:=Q.cell 1
  have b2:=Q.cell 2
  simp at a0 N M b0 b1 b2
  by_cases hf:A2=none/\B2=none
  rotate_left
  . rcases A2 with _ | ad
    . obtain ⟨bd,rfl⟩:∃ bd,B2=some bd:=by
       rcases B2 with _ | bd
       . exact absurd ⟨rfl,rfl⟩ hf
       . exact ⟨bd,rfl⟩
      clear hf;have HA:=ze hA;have HB:=ze hB;have af:=ze S;have T:=ze Q;have ac:=ze kC;have HW:=ze hW;obtain ⟨P1,P2,aP,aL⟩:=V3 aU aq.o;rw [HQ.o] at P1 P2;obtain ⟨G,hG⟩:∃ G,G=Nat.gcd zn.natAbs zd.natAbs:=⟨_,rfl⟩;rw [<- hG] at P1 P2 aP aL;have aW:=ze P1;have bj:=ze P2;have bA:=ze aP;have bk:=ze aL;have HG:=ze hG;clear hA hB S Q kC hW aU P1 P2 aP aL hG;go_wp2_with fail;refine (ZB _ zn _ HA.o).mono ?_;rintro e w5 ⟨p,rfl,hp,R⟩;have aH:=T.o.below R T.o.lt;have b0:=aH.cell 0;have b1:=aH.cell 1;have b2:=aH.cell 2;simp at b0 b1 b2;go_wp2_with fail;refine (ZB _ zd _ (HB.o.below R)).mono ?_;rintro e w6 ⟨p',rfl,a7,X⟩;have a8:=hp.below X;clear b0 b1 b2 a0 N M;go_wp2_with fail;refine (zq5 p p' _ _ w6 a8 a7 aI.o aq.o).mono ?_;rintro e w7 ⟨q,rfl,hq,Z⟩;rw [<- HG.o] at hq;go_wp2_with fail;refine (ym false q _ w7 hq).mono ?_;rintro e w8 ⟨v,rfl,hv,ab⟩;obtain ⟨x',A',k4,c4,aN,rfl,_,_,_⟩:=hv.form;have bo:=ext (ext (ext (ext HW.o R) X) Z) ab;have bc:=(((HA.o.below R).below X).below Z).below ab
      have a4:=(((HB.o.below R).below X).below Z).below ab;have ag:=zvu af.o R X Z ab;have aO:=zvu T.o R X Z ab;have aR:=zvu ac.o R X Z ab;have ba:=ze bo;have bh:=ze bc;have bf:=ze a4;have aY:=ze (show yb w8 _ ((G:Nat):Int) from hv);have a0:=ag.cell 0;have N:=ag.cell 1;have M:=ag.cell 2;have l1:=ag.lt;have l2:=aO.lt;have l3:=aR.lt;simp at a0 N M;have aZ:=ze ag;have bn:=ze aO;have a6:=ze aR;clear R X Z ab bo bc a4 hv hq hp a7 a8 HW HA HB af T ac aH q1 q2 ag aO aR;go_wp2_with fail;have U:=zf w8 (.cells #[.int .i64 x',.slice A' k4 c4,.bool aN] 53);have aT:=bh.o.below U;have aS:=bf.o.below U;have aE:=aY.o.below U;have aw:=aZ.o.below U l1;have aG:=bn.o.below U l2;have ay:=a6.o.below U l3;have ai:=Blk.new w8 53 #[.int .i64 x',.slice A' k4 c4,.bool aN];have aJ:=ext ba.o U;generalize bx:w8.heap.size=gg at ai |-;have bT:w.heap.size+1+1<gg:=by omega
      generalize w8.alloc (.cells #[.int .i64 x',.slice A' k4 c4,.bool aN] 53)=w9 at aT aS aE aw aG ay ai aJ |-;clear U bh bf aY aZ bn a6 ba a0 N M l1 l2 l3 bx;have bg:((G:Nat):Int)≠0:=by have:=bA.o;omega
      refine (zbf _ _ zn G w9 aT aE bg aI.o bk.o).mono ?_;rintro e bF ⟨v1,v2,rfl,aa,ao,V⟩;obtain ⟨u,r,C,j,D,rfl,_,_,_⟩:=aa.form;have F:=aw.below V aw.lt;have a0:=F.cell 0;have N:=F.cell 1;have M:=F.cell 2;have f0:=F.frozen 0;have f1:=F.frozen 1;have f2:=F.frozen 2;simp at a0 N M;have ak:=vX (g' :=w.heap.size) (x:=u) (A:=r) (k:=C) (c:=j) (ng:=D) (aG.below V aG.lt) (by omega);have bi:=vX (g' :=w.heap.size) (x:=u) (A:=r) (k:=C) (c:=j) (ng:=D) (ay.below V ay.lt) (by omega);have aA:=vX (g' :=w.heap.size) (x:=u) (A:=r) (k:=C) (c:=j) (ng:=D) (ai.below V ai.lt) (by omega);have bl:=ys (x:=u) (A:=r) (k:=C) (c:=j) (ng:=D) F;have an:=zC (x:=u) (A:=r) (k:=C) (c:=j) (ng:=D) aa F;have bq:=zC (x:=u) (A:=r) (k:=C) (c:=j) (ng:=D) (aS.below V) F;have bp:=zC (x:=u) (A:=r) (k:=C) (c:=j) (ng:=D) (aE.below V) F;have a9:=zW (x:=u) (A:=r) (k:=C) (c:=j) (ng:=D) (ext aJ V) (Nat.le_refl _);have d0:=ak.cell 0
      have d1:=ak.cell 1;have Y:=ak.cell 2;have g0:=aA.cell 0;have g1:=aA.cell 1;have g2:=aA.cell 2;simp at d0 d1 Y g0 g1 g2;have al:=ze bl;have am:=ze ak;have aj:=ze bi;have aF:=ze an;have aB:=ze bq;have ax:=ze bp;have az:=ze a9;clear aw aG ay ai aT aS aE aJ V aa ao F ak bi aA bl an bq bp a9;simp only [World.num] at al am aj aF aB ax az d0 d1 Y g0 g1 g2;go_wp2_with fail;generalize ((bF.setCell { block:=w.heap.size,off:=0 } (.int .i64 u)).setCell { block:=w.heap.size,off:=1 } (.slice r C j)).setCell { block:=w.heap.size,off:=2 } (.bool D)=w11 at al am aj aF aB ax az d0 d1 Y g0 g1 g2 |-;clear a0 N M f0 f1 f2;refine (zbf _ _ zd G w11 aB.o ax.o bg aq.o bk.o).mono ?_;rintro e b3 ⟨v1,v2,rfl,aa,ao,ah⟩;obtain ⟨I,K,E,L,J,rfl,_,_,_⟩:=aa.form;have O:=am.o.below ah am.o.lt;have a0:=O.cell 0;have N:=O.cell 1;have M:=O.cell 2;have f0:=O.frozen 0;have f1:=O.frozen 1;have f2:=O.frozen 2;simp at a0 N M
      have bm:=vX (g' :=w.heap.size+1) (x:=I) (A:=K) (k:=E) (c:=L) (ng:=J) (al.o.below ah al.o.lt) (by omega);have be:=vX (g' :=w.heap.size+1) (x:=I) (A:=K) (k:=E) (c:=L) (ng:=J) (aj.o.below ah aj.o.lt) (by omega);have a5:=ys (x:=I) (A:=K) (k:=E) (c:=L) (ng:=J) O;have a3:=zC (x:=I) (A:=K) (k:=E) (c:=L) (ng:=J) aa O;have an:=zC (x:=I) (A:=K) (k:=E) (c:=L) (ng:=J) (aF.o.below ah) O;have aX:=zW (g:=w.heap.size+1) (x:=I) (A:=K) (k:=E) (c:=L) (ng:=J) (ext az.o ah) (by omega);have bI :=ze an;have bC :=ze a3;have bs:=ze aX;have aM:=ze bm;have aK:=ze a5;have l:=ze be;clear ah aa ao O bm be a5 an a3 aX al am aj aF aB ax az d0 d1 Y g0 g1 g2;have d0:=aM.o.cell 0;have d1:=aM.o.cell 1;have Y:=aM.o.cell 2;have g0:=aK.o.cell 0;have g1:=aK.o.cell 1;have g2:=aK.o.cell 2;have h0:=l.o.cell 0;have h1:=l.o.cell 1;have h2:=l.o.cell 2;have h3:=l.o.cell 3
      have h4:=l.o.cell 4;have h5:=l.o.cell 5;have j0:=l.o.frozen 0;have j1:=l.o.frozen 1;have j2:=l.o.frozen 2;have j3:=l.o.frozen 3;have j4:=l.o.frozen 4;have j5:=l.o.frozen 5;simp at d0 d1 Y g0 g1 g2 h0 h1 h2 h3 h4 h5;go_wp2_with fail;have kR:=yx (x:=u) (A:=r) (k:=C) (c:=j) (s:=D) (y:=I) (B:=K) (k' :=E) (c' :=L) (t:=J) l.o;have bB:=yz (x:=u) (A:=r) (k:=C) (c:=j) (s:=D) (y:=I) (B:=K) (k' :=E) (c' :=L) (t:=J) bI.o l.o;have bE:=yz (x:=u) (A:=r) (k:=C) (c:=j) (s:=D) (y:=I) (B:=K) (k' :=E) (c' :=L) (t:=J) bC.o l.o;have bG:=yu (g:=w.heap.size+1+1) (x:=u) (A:=r) (k:=C) (c:=j) (s:=D) (y:=I) (B:=K) (k' :=E) (c' :=L) (t:=J) bs.o (by omega);have e0:=kR.cell 0;have e1:=kR.cell 1;have e2:=kR.cell 2;have e3:=kR.cell 3;have e4:=kR.cell 4;have e5:=kR.cell 5;simp only [World.rat,World.num] at e0 e1 e2 e3 e4 e5;simp at e0 e1 e2 e3 e4 e5
      refine bodyPost_ret (v:=.agg #[.int .i64 u,.slice r C j,.bool D,.int .i64 I,.slice K E L,.bool J]) (by simp [results,results54,go_sem,e0,e1,e2,e3,e4,e5]) rfl ?_;refine ⟨_,rfl,⟨_,_,_,_,_,_,_,_,_,_,rfl,?_,?_⟩,bG⟩
      . rw [aW.o];exact bB
      rw [bj.o];exact bE
    . clear hf
      have HA:=ze hA;have HB:=ze hB;have af:=ze S;have T:=ze Q;have ac:=ze kC;have HW:=ze hW;obtain ⟨P1,P2,aP,aL⟩:=V3 aU aq.o;rw [HQ.o] at P1 P2;obtain ⟨G,hG⟩:∃ G,G=Nat.gcd zn.natAbs zd.natAbs:=⟨_,rfl⟩;rw [<- hG] at P1 P2 aP aL;have aW:=ze P1;have bj:=ze P2;have bA:=ze aP;have bk:=ze aL;have HG:=ze hG;clear hA hB S Q kC hW aU P1 P2 aP aL hG;go_wp2_with fail;refine (ZB _ zn _ HA.o).mono ?_;rintro e w5 ⟨p,rfl,hp,R⟩;have aH:=T.o.below R T.o.lt;have b0:=aH.cell 0;have b1:=aH.cell 1;have b2:=aH.cell 2;simp at b0 b1 b2;go_wp2_with fail;refine (ZB _ zd _ (HB.o.below R)).mono ?_;rintro e w6 ⟨p',rfl,a7,X⟩;have a8:=hp.below X;clear b0 b1 b2 a0 N M;go_wp2_with fail;refine (zq5 p p' _ _ w6 a8 a7 aI.o aq.o).mono ?_;rintro e w7 ⟨q,rfl,hq,Z⟩;rw [<- HG.o] at hq;go_wp2_with fail;refine (ym false q _ w7 hq).mono ?_;rintro e w8 ⟨v,rfl,hv,ab⟩;obtain ⟨x',A',k4,c4,aN,rfl,_,_,_⟩:=hv.form;have bo:=ext (ext (ext (ext HW.o R) X) Z) ab;have bc:=(((HA.o.below R).below X).below Z).below ab
      have a4:=(((HB.o.below R).below X).below Z).below ab;have ag:=zvu af.o R X Z ab;have aO:=zvu T.o R X Z ab;have aR:=zvu ac.o R X Z ab;have ba:=ze bo;have bh:=ze bc;have bf:=ze a4;have aY:=ze (show yb w8 _ ((G:Nat):Int) from hv);have a0:=ag.cell 0;have N:=ag.cell 1;have M:=ag.cell 2;have l1:=ag.lt;have l2:=aO.lt;have l3:=aR.lt;simp at a0 N M;have aZ:=ze ag;have bn:=ze aO;have a6:=ze aR;clear R X Z ab bo bc a4 hv hq hp a7 a8 HW HA HB af T ac aH q1 q2 ag aO aR;go_wp2_with fail;have U:=zf w8 (.cells #[.int .i64 x',.slice A' k4 c4,.bool aN] 53);have aT:=bh.o.below U;have aS:=bf.o.below U;have aE:=aY.o.below U;have aw:=aZ.o.below U l1;have aG:=bn.o.below U l2;have ay:=a6.o.below U l3;have ai:=Blk.new w8 53 #[.int .i64 x',.slice A' k4 c4,.bool aN];have aJ:=ext ba.o U;generalize bx:w8.heap.size=gg at ai |-;have bT:w.heap.size+1+1<gg:=by omega
      generalize w8.alloc (.cells #[.int .i64 x',.slice A' k4 c4,.bool aN] 53)=w9 at aT aS aE aw aG ay ai aJ |-;clear U bh bf aY aZ bn a6 ba a0 N M l1 l2 l3 bx;have bg:((G:Nat):Int)≠0:=by have:=bA.o;omega
      refine (zbf _ _ zn G w9 aT aE bg aI.o bk.o).mono ?_;rintro e bF ⟨v1,v2,rfl,aa,ao,V⟩;obtain ⟨u,r,C,j,D,rfl,_,_,_⟩:=aa.form;have F:=aw.below V aw.lt;have a0:=F.cell 0;have N:=F.cell 1;have M:=F.cell 2;have f0:=F.frozen 0;have f1:=F.frozen 1;have f2:=F.frozen 2;simp at a0 N M;have ak:=vX (g' :=w.heap.size) (x:=u) (A:=r) (k:=C) (c:=j) (ng:=D) (aG.below V aG.lt) (by omega);have bi:=vX (g' :=w.heap.size) (x:=u) (A:=r) (k:=C) (c:=j) (ng:=D) (ay.below V ay.lt) (by omega);have aA:=vX (g' :=w.heap.size) (x:=u) (A:=r) (k:=C) (c:=j) (ng:=D) (ai.below V ai.lt) (by omega);have bl:=ys (x:=u) (A:=r) (k:=C) (c:=j) (ng:=D) F;have an:=zC (x:=u) (A:=r) (k:=C) (c:=j) (ng:=D) aa F;have bq:=zC (x:=u) (A:=r) (k:=C) (c:=j) (ng:=D) (aS.below V) F;have bp:=zC (x:=u) (A:=r) (k:=C) (c:=j) (ng:=D) (aE.below V) F;have a9:=zW (x:=u) (A:=r) (k:=C) (c:=j) (ng:=D) (ext aJ V) (Nat.le_refl _);have d0:=ak.cell 0
      have d1:=ak.cell 1;have Y:=ak.cell 2;have g0:=aA.cell 0;have g1:=aA.cell 1;have g2:=aA.cell 2;simp at d0 d1 Y g0 g1 g2;have al:=ze bl;have am:=ze ak;have aj:=ze bi;have aF:=ze an;have aB:=ze bq;have ax:=ze bp;have az:=ze a9;clear aw aG ay ai aT aS aE aJ V aa ao F ak bi aA bl an bq bp a9;simp only [World.num] at al am aj aF aB ax az d0 d1 Y g0 g1 g2;go_wp2_with fail;generalize ((bF.setCell { block:=w.heap.size,off:=0 } (.int .i64 u)).setCell { block:=w.heap.size,off:=1 } (.slice r C j)).setCell { block:=w.heap.size,off:=2 } (.bool D)=w11 at al am aj aF aB ax az d0 d1 Y g0 g1 g2 |-;clear a0 N M f0 f1 f2;refine (zbf _ _ zd G w11 aB.o ax.o bg aq.o bk.o).mono ?_;rintro e b3 ⟨v1,v2,rfl,aa,ao,ah⟩;obtain ⟨I,K,E,L,J,rfl,_,_,_⟩:=aa.form;have O:=am.o.below ah am.o.lt;have a0:=O.cell 0;have N:=O.cell 1;have M:=O.cell 2;have f0:=O.frozen 0;have f1:=O.frozen 1;have f2:=O.frozen 2;simp at a0 N M
      have bm:=vX (g' :=w.heap.size+1) (x:=I) (A:=K) (k:=E) (c:=L) (ng:=J) (al.o.below ah al.o.lt) (by omega);have be:=vX (g' :=w.heap.size+1) (x:=I) (A:=K) (k:=E) (c:=L) (ng:=J) (aj.o.below ah aj.o.lt) (by omega);have a5:=ys (x:=I) (A:=K) (k:=E) (c:=L) (ng:=J) O;have a3:=zC (x:=I) (A:=K) (k:=E) (c:=L) (ng:=J) aa O;have an:=zC (x:=I) (A:=K) (k:=E) (c:=L) (ng:=J) (aF.o.below ah) O;have aX:=zW (g:=w.heap.size+1) (x:=I) (A:=K) (k:=E) (c:=L) (ng:=J) (ext az.o ah) (by omega);have bI :=ze an;have bC :=ze a3;have bs:=ze aX;have aM:=ze bm;have aK:=ze a5;have l:=ze be;clear ah aa ao O bm be a5 an a3 aX al am aj aF aB ax az d0 d1 Y g0 g1 g2;have d0:=aM.o.cell 0;have d1:=aM.o.cell 1;have Y:=aM.o.cell 2;have g0:=aK.o.cell 0;have g1:=aK.o.cell 1;have g2:=aK.o.cell 2;have h0:=l.o.cell 0;have h1:=l.o.cell 1;have h2:=l.o.cell 2;have h3:=l.o.cell 3
      have h4:=l.o.cell 4;have h5:=l.o.cell 5;have j0:=l.o.frozen 0;have j1:=l.o.frozen 1;have j2:=l.o.frozen 2;have j3:=l.o.frozen 3;have j4:=l.o.frozen 4;have j5:=l.o.frozen 5;simp at d0 d1 Y g0 g1 g2 h0 h1 h2 h3 h4 h5;go_wp2_with fail;have kR:=yx (x:=u) (A:=r) (k:=C) (c:=j) (s:=D) (y:=I) (B:=K) (k' :=E) (c' :=L) (t:=J) l.o;have bB:=yz (x:=u) (A:=r) (k:=C) (c:=j) (s:=D) (y:=I) (B:=K) (k' :=E) (c' :=L) (t:=J) bI.o l.o;have bE:=yz (x:=u) (A:=r) (k:=C) (c:=j) (s:=D) (y:=I) (B:=K) (k' :=E) (c' :=L) (t:=J) bC.o l.o;have bG:=yu (g:=w.heap.size+1+1) (x:=u) (A:=r) (k:=C) (c:=j) (s:=D) (y:=I) (B:=K) (k' :=E) (c' :=L) (t:=J) bs.o (by omega);have e0:=kR.cell 0;have e1:=kR.cell 1;have e2:=kR.cell 2;have e3:=kR.cell 3;have e4:=kR.cell 4;have e5:=kR.cell 5;simp only [World.rat,World.num] at e0 e1 e2 e3 e4 e5;simp at e0 e1 e2 e3 e4 e5
      refine bodyPost_ret (v:=.agg #[.int .i64 u,.slice r C j,.bool D,.int .i64 I,.slice K E L,.bool J]) (by simp [results,results54,go_sem,e0,e1,e2,e3,e4,e5]) rfl ?_;refine ⟨_,rfl,⟨_,_,_,_,_,_,_,_,_,_,rfl,?_,?_⟩,bG⟩
      . rw [aW.o];exact bB
      rw [bj.o];exact bE
  obtain ⟨rfl,rfl⟩:=hf
  obtain ⟨rfl,rfl,rfl,h1,h2⟩:=hA.small;obtain ⟨rfl,rfl,rfl,h3,h4⟩:=hB.small;have bV:=fun w=>Vx zn (.slice none 0 0) s2 w h1 h2
  have HB:=ze (And.intro h1 (And.intro h2 h4));obtain ⟨m,rfl⟩:=Int.eq_ofNat_of_zero_le (Int.le_of_lt aU);have bO:0<m:=by omega
  have b8:(m:Int)<4611686018427387904:=h4;have cc:IntKind.u64.wrap (m:Int)=(m:Int):=by rw [IntKind.wrap_u64];omega
  clear h1 h2 h3 h4 aU;go_wp2_with fail
  go_region_held3 (fun w' =>w'.cell? ⟨w.heap.size,0,none⟩=some (.int .i64 zn)/\w'.cell? ⟨w.heap.size,1,none⟩=some (.slice none 0 0)/\w'.cell? ⟨w.heap.size,2,none⟩=some (.bool s2)/\w'.cell? ⟨w.heap.size+1,0,none⟩=some (.int .i64 m)/\
   w.heap.size<w'.heap.size/\w.heap.size+1<w'.heap.size/\Hid (Blk w' (w.heap.size+1+1) 55 #[.int .i64 0,.slice none 0 0,.bool false,.int .i64 0,.slice none 0 0,.bool false])/\Hid (Below w.heap.size w w'))
   (first
     | exact ⟨by go_keep,by go_keep,by go_keep,by go_keep,(S.drewN 1).lt,(Q.drewN 1).lt,ze (kC.drewN 1),ze (zo hW 1)⟩
     | go_keep
     | (go_split_ands;exact ⟨zj ‹_› ‹_› ‹_›,zj ‹_› ‹_› ‹_›,zj ‹_› ‹_› ‹_›,zj ‹_› ‹_› ‹_›,zG ‹_› ‹_›,zG ‹_› ‹_›,ZW ‹_› ‹_›,zr ‹_› ‹_›⟩))
   (first
     | (refine (bV _).mono ?_;rintro e w4 ⟨rfl,bU⟩))
  go_split_ands;have ae:=zK (by assumption:Hid (Blk w4 (w.heap.size+1+1) _ _));have bR:=zK (by assumption:Hid (Below w.heap.size w w4));have c0:=ae.cell 0;have c1:=ae.cell 1;have c2:=ae.cell 2;have c3:=ae.cell 3;have c4:=ae.cell 4;have j:=ae.cell 5;have f0:=ae.frozen 0;have f1:=ae.frozen 1;have f2:=ae.frozen 2;have f3:=ae.frozen 3;have f4:=ae.frozen 4;have f5:=ae.frozen 5;simp at c0 c1 c2 c3 c4 j;clear S Q kC hW bU hA hB;go_wp2_with fail
  go_loopw [5,6] (EucR zn.natAbs m w4) (fun _ bv _=>(intOf bv).toNat)
  case atStart=>exact ⟨zn.natAbs,m,0,rfl,rfl,rfl,by have:=HB.o;omega,by omega,rfl⟩
  case round=>
   obtain ⟨a,b,nq,rfl,rfl,rfl,ha,hb,HG⟩:=hrel;have cb:=ae.drewN nq
   by_cases bH:b=0
   . subst bH
     have hg:a=Nat.gcd zn.natAbs m:=by have:=HG.o;rwa [Nat.gcd_zero_right] at this
     have cg:0<a:=by rw [hg];exact Nat.gcd_pos_of_pos_right _ bO
     obtain ⟨P1,P2⟩:=zce zn m bO;rw [<- hg] at P1 P2;rw [HQ.o] at P1 P2;have aW:=ze P1;have bj:=ze P2;clear P1 P2 hg HG;obtain ⟨t1,t2⟩:=zcs (y:=(a:Int)) HB.o.1 HB.o.2.1;have t3:0<=(m:Int) / (a:Int):=Int.ediv_nonneg (by omega) (by omega);have t4:(m:Int) / (a:Int)<4611686018427387904:=by have:=Int.ediv_le_self (a:=(m:Int)) (a:Int) (by omega);omega
     have cl:((a:Int) == 0)=false:=beq_eq_false_iff_ne.2 (by omega);have cr :¬ (a:Int)=0:=by omega
     have ck:¬ a=0:=by omega
     have cq:¬ w.heap.size=w.heap.size+1+1:=by omega
     have ch:¬ w.heap.size+1+1=w.heap.size:=by omega
     have w1:IntKind.i64.wrap (a:Int)=(a:Int):=IntWalk.i64_in _ (by omega);have w2:IntKind.i64.wrap (zn.tdiv a)=zn.tdiv a:=IntWalk.i64_in _ (by omega);have w3:IntKind.i64.wrap ((m:Int) / a)=(m:Int) / a:=IntWalk.i64_in _ (by omega);go_wp2_with fail
     go_region_held3 (fun w' =>w'.cell? ⟨w.heap.size,0,none⟩=some (.int .i64 zn)/\w'.cell? ⟨w.heap.size+1,0,none⟩=some (.int .i64 m)) (go_keep) (fail)
     go_wp2;have kD:=((((((ae.drewN (nq+1)).set_ 0 (.int .i64 (zn.tdiv a))).set_ 1 (.slice none 0 0)).set_ 2 (.bool false)).set_ 3 (.int .i64 ((m:Int) / a))).set_ 4 (.slice none 0 0)).set_ 5 (.bool false);have d0:=kD.cell 0;have d1:=kD.cell 1;have Y:=kD.cell 2;have d3:=kD.cell 3;have d4:=kD.cell 4;have d5:=kD.cell 5;simp at d0 d1 Y d3 d4 d5;refine bodyPost_ret (v:=.agg #[.int .i64 (zn.tdiv a),.slice none 0 0,.bool false,.int .i64 ((m:Int) / a),.slice none 0 0,.bool false]) (by simp [results,results54,go_sem,d0,d1,Y,d3,d4,d5]) rfl ?_;refine ⟨_,rfl,⟨_,_,_,_,_,_,_,_,_,_,rfl,.inl ⟨_,_,rfl,t1,t2,aW.o⟩,.inl ⟨_,_,rfl,by omega,t4,bj.o⟩⟩,?_⟩;exact ((((((zo bR (nq+1)).setCell (by simp;omega) _).setCell (by simp;omega) _).setCell (by simp;omega) _).setCell (by simp;omega) _).setCell (by simp;omega) _).setCell (by simp;omega) _
   have cn:=ze ha
   have bK:=ze hb;clear ha hb HB b8;have ct:((b:Int) == 0)=false:=beq_eq_false_iff_ne.2 (by omega);have cf :¬ (b:Int)=0:=by omega
   go_wp2_with fail
   go_quiet (fail)
   go_wp2;go_roundw
   case rel=>
    refine ⟨b,a % b,_,World.drewN_drewN _ _ _,rfl,?_,bK.o,?_,?_⟩
    . go_num
    . have:=Nat.mod_lt a (Nat.pos_of_ne_zero bH);have:=bK.o;omega
    . show _=_
      rw [Nat.gcd_comm, <- Nat.gcd_rec,Nat.gcd_comm];exact HG.o
   case measure=>
    have:=Nat.mod_lt a (Nat.pos_of_ne_zero bH)
    simp [intOf]<;>omega
def zvh (w:World) (n m:Nat) (e:Ending) (w' :World):Prop:=∃ v v',e= .returned (.tuple #[v,v'])/\zy w' v n/\zy w' v' m/\Below w.heap.size w w'
theorem zeg (w:World) {d:Nat} (h0:0<d) (h:d<1000000000):zy (w.alloc (.cells #[.int .i64 (d:Int)] 3)) (.slice (some ⟨w.heap.size,0,none⟩) 1 1) d:=by
 have b:=xJ w 3 (.int .i64 (d:Int))
 exact ⟨_,1,[d],rfl,Nat.le_refl _,by unfold maxLen;decide,by simpa [Yd] using b,yW.mk_ (fun x hx=>by rw [List.mem_singleton] at hx;omega) (fun _=>by simpa using (by omega:d≠0)),YM _ _⟩
theorem zkk (w:World):zy w (.slice none 0 0) 0:=⟨none,0,[],rfl,by simp,by simp [maxLen],zV.none_,yW.nil _,rfl⟩
def zre (da:List Nat) (b:Nat) (w:World) (rv iv:Value) (wr:World):Prop:=
 ∃ (k r:Nat) (Q:List Nat),k<=da.length/\iv= .int .i64 ((k:Int) - 1)/\zy wr rv r/\Hid (r<b)/\Q.length=da.length/\zI 1000000000 Q/\Hid (∀ p,p<k->Q.getD p 0=0)/\
  Hid (val 1000000000 (da.drop k)=val 1000000000 (Q.drop k)*b+r)/\Blk wr w.heap.size 3 (vk Q)/\Below w.heap.size w wr
def zya (b R:Nat) (Q:List Nat) (w:World) (rv:Value) (lv hv:Value) (wr:World):Prop:=
 ∃ lo hi:Nat,lo<=hi/\hi<1000000000/\lv= .int .i64 lo/\hv= .int .i64 hi/\Hid (lo*b<=R)/\Hid (R<(hi+1)*b)/\zy wr rv R/\Blk wr w.heap.size 3 (vk Q)/\Below w.heap.size w wr
theorem zjs {da:List Nat} {k:Nat} (hk:0<k) (hl:k<=da.length):val 1000000000 (da.drop (k - 1))=da[k - 1]'(by omega)+1000000000*val 1000000000 (da.drop k):=by
 have:=Yu 1000000000 da (k - 1) (by omega)
 rwa [show k - 1+1=k by omega] at this
theorem zre.skip {da Q:List Nat} {b k r:Nat} {w wr:World} {rv iv:Value} (hk:0<k) (hl:k<=da.length) (hQ:Q.length=da.length) (hsQ:zI 1000000000 Q) (HZ:Hid (∀ p,p<k->Q.getD p 0=0))
 (HV:Hid (val 1000000000 (da.drop k)=val 1000000000 (Q.drop k)*b+r)) (hblk:Blk wr w.heap.size 3 (vk Q)) (hbl:Below w.heap.size w wr)
 (hr:zy wr rv (da[k - 1]'(by omega)+1000000000*r)) (hlt:da[k - 1]'(by omega)+1000000000*r<b) (hiv:iv= .int .i64 ((k:Int) - 1 - 1)):zre da b w rv iv wr:=by
 refine ⟨k - 1,_,Q,by omega,by rw [hiv];congr 1;omega,hr,hlt,hQ,hsQ,fun p hp=>HZ.o p (by omega),?_,hblk,hbl⟩
 show _=_
 have j:=HV.o
 have e:=HZ.o (k - 1) (by omega)
 rw [zv (by omega)] at e
 rw [zjs hk hl,zjs hk (by omega),j,e,Nat.mul_add,Nat.zero_add, <- Nat.mul_assoc]
 omega
theorem zre.digit {da Q:List Nat} {b k r d:Nat} {w wr:World} {rv iv:Value} (hk:0<k) (hl:k<=da.length) (hQ:Q.length=da.length) (hsQ:zI 1000000000 Q) (HZ:Hid (∀ p,p<k->Q.getD p 0=0))
 (HV:Hid (val 1000000000 (da.drop k)=val 1000000000 (Q.drop k)*b+r)) (hb:0<b) (hblk:Blk wr w.heap.size 3 (vk (Q.set (k - 1) d))) (hbl:Below w.heap.size w wr)
 (hd:d<1000000000) (h1:d*b<=da[k - 1]'(by omega)+1000000000*r) (h2:da[k - 1]'(by omega)+1000000000*r<(d+1)*b)
 (hr:zy wr rv (da[k - 1]'(by omega)+1000000000*r - b*d)) (hiv:iv= .int .i64 ((k:Int) - 1 - 1)):zre da b w rv iv wr:=by
 rw [Nat.add_mul,Nat.one_mul] at h2
 rw [Nat.mul_comm b d] at hr
 refine ⟨k - 1,_,Q.set (k - 1) d,by omega,by rw [hiv];congr 1;omega,hr,?_,by simpa using hQ,hsQ.set _ _ hd,fun p hp=>by rw [getD_set_ne _ _ _ _ (by omega)];exact HZ.o p (by omega),?_,hblk,hbl⟩
 . show _<_
   omega
 show _=_
 have j:=HV.o;have e:=Vj 1000000000 Q (k - 1) d (by omega);rw [show k - 1+1=k by omega] at e;rw [zjs hk hl,e,j,Nat.add_mul,Nat.mul_add, <- Nat.mul_assoc]
 omega
theorem V7.more {w:World} {B B' :Nat} {v:Value} {n:Nat} (h:V7 w B v n) (hB:B<=B'):V7 w B' v n:=by
 obtain ⟨A,c,ds,j,e,b,l,m⟩:=h
 exact ⟨A,c,ds,j,e,b,l.more hB,m⟩
theorem V7.lt9 {w:World} {B n:Nat} {b:Addr} {k c:Nat} (h:V7 w B (.slice (some b) k c) n) (hk:0<k):b.block<B:=by
 obtain ⟨A',c',ds,e,m,l,j,r,u⟩:=h
 injection e with e1 e2 e3
 subst e1 e2 e3
 obtain ⟨b,e,hb,_⟩:=j.2 hk
 injection e with e
 subst e
 exact hb
theorem zl4 {w:World} {base n:Nat} {v:Value} {ds:List Nat} (h:w.ownsRow base 3 1 v n (Yd ds)) (hn:0<n):∃ g c,v= .slice (some ⟨g,0,none⟩) n c/\base<=g/\n<=c/\c<=maxLen/\zV w w.heap.size 1 (some ⟨g,0,none⟩) n (Yd ds):=by
 rcases h.2 with ⟨rfl,l⟩ | ⟨g,j,m,rfl,hb,r,b,e,u,y⟩
 . omega
 . exact ⟨g,j,rfl,hb,b,e,zV.of_own h⟩
theorem ziu {W:World} {g q i k c n:Nat} {u:Value} (h:zy W (.slice (some ⟨g,0,none⟩) k c) n) (hne:g≠q):zy (W.setCell ⟨q,i,none⟩ u) (.slice (some ⟨g,0,none⟩) k c) n:=by
 obtain ⟨A,c',ds,e,m,l,b,r,y⟩:=h
 injection e with e1 e2 e3
 subst e1 e2 e3
 refine ⟨_,_,ds,rfl,m,l,?_,r,y⟩
 have j:zV (W.setCell ⟨q,i,none⟩ u) W.heap.size 1 (some ⟨g,0,none⟩) ds.length (Yd ds):=zV.apart b (fun p hp=>World.cell?_setCell_other W _ p u (fun e=>by subst e;exact hne hp.symm))
 exact j.more (by simp [World.setCell])
theorem zt3 {w:World} {B:Nat} {d:Nat} (hB:B<=w.heap.size):(w.alloc (.cells #[.int .i64 (d:Int)] 3)).ownsRow B 3 1 (.slice (some ⟨w.heap.size,0,none⟩) 1 1) 1 (Yd [d]):=
 World.ownsRow_lit (e:=3) (size:=1) w #[Value.int .i64 (d:Int)] 1 hB (by unfold maxLen;decide) rfl
theorem zo4 {w w' :World} {o:Obj} {c:Nat} (h:(w.alloc o).grownBy w' (Value.slice (some ⟨w.heap.size,0,none⟩) 1 c).ownBlock):Below w.heap.size w w' :=by
 refine (zf w o).grown h (by simp) ?_
 intro k b
 simp [Value.ownBlock] at b
 omega
theorem zmm {n d:Nat} (hd:0<d) (h:n<1000000000*d):n / d<1000000000/\n / d*d<=n/\n<(n / d+1)*d:=by
 refine ⟨Nat.div_lt_of_lt_mul (by rw [Nat.mul_comm];exact h),Nat.div_mul_le_self _ _,?_⟩
 have b:=Nat.div_add_mod n d
 have e:=Nat.mod_lt n hd
 rw [Nat.add_mul,Nat.one_mul,Nat.mul_comm]
 omega
theorem zov {n d q:Nat} (hn:n<1000000000000000000) (hd:0<d) (hq:q=n / d):wrap64 ((n:Int) / (d:Int))=(q:Int):=by
 have e:(n:Int) / (d:Int)=(q:Int):=by rw [hq];rfl
 have b:q<=n:=by rw [hq];exact Nat.div_le_self _ _
 rw [e]
 unfold wrap64
 omega
theorem zbe {lo hi:Nat} (h:lo<hi):lo<(lo+hi+1) / 2/\(lo+hi+1) / 2<=hi:=by omega
theorem Zk {n:Nat} (h:0<n) (h2:n<1000000000):len 1000000000 n=1:=by
 unfold len
 rw [Yc (by omega) h,Nat.div_eq_of_lt h2,ZH];rfl
theorem Xj (va vb:Value) (a b:Nat) (w:World) (ha:zy w va a) (hb:zy w vb b) (hb0:0<b) (hla:len 1000000000 a<=33554432) (hlb:len 1000000000 b<=33554432):
 Calls Tryz.prog 135 #[va,vb] w (zvh w (a / b) (a % b)):=by
 have bd :=ha
 have a9 :=hb
 have cs:=ze hla
 have al:=ze hlb
 have O:=fun w T h2=>Zw va vb a b w T h2 (Nat.le_trans hla (by omega)) (Nat.le_trans hlb (by omega))
 obtain ⟨A,ca,F,rfl,T,h2,b5,h4,a1⟩:=ha
 obtain ⟨B,cb,db,rfl,k1,k2,bR,k4,a7⟩:=hb
 rw [<- a1, <- h4.length_eq (by omega)] at hla
 rw [<- a7, <- k4.length_eq (by omega)] at hlb
 have b6:=h4.1
 have ba :=ze bd
 have au :=ze a9
 have av:=ze hb0
 have b4:=ze a1
 have bm:=ze a7
 have bw:=ze k4
 obtain ⟨i0,b7,b1,bZ,bQ⟩:=info_parts zev
 by_cases ar:a<b
 . have e1:zP (a:Int) b= -1:=by unfold zP;rw [if_pos (by omega)]
   rw [e1] at O;rw [Nat.div_eq_of_lt ar,Nat.mod_eq_of_lt ar];clear e1 ar a1 a7 h4 k4 bd a9 hb0
   go_enter func135,ntmps135
   go_wp2_with fail;refine (O _ ba.o au.o).mono ?_;rintro e w1 ⟨rfl,n,rfl⟩;go_wp2_with fail;go_ret2;exact ⟨_,_,rfl,zkk _,ba.o.below (zD _ _),zD _ _⟩
 have hc:∃ c:Int,zP (a:Int) b=c/\¬ c<0:=by
  unfold zP;rw [if_neg (by omega)]
  split
  . exact ⟨1,rfl,by omega⟩
  exact ⟨0,rfl,by omega⟩
 obtain ⟨c0,bD,ci⟩:=hc;rw [bD] at O;have ct:=fun w=>zts .i64 F.length (by omega) w
 clear bD ar a1 a7 h4 k4 bd a9 hb0
 go_enter func135,ntmps135
 go_wp2_with fail;refine (O _ ba.o au.o).mono ?_;rintro e w1 ⟨rfl,n,rfl⟩;clear O;go_wp2_with fail
 go_loopw [7,8] (zre F b w) (fun _ iv _=>(intOf iv+1).toNat)
 case atStart=>
  refine ⟨F.length,0,List.replicate F.length 0,Nat.le_refl _,rfl,zkk _,av.o,by simp,zI.replicate (by omega) _,?_,?_,?_,?_⟩
  . intro p _
    rw [List.getD_eq_getElem?_getD,List.getElem?_replicate]
    split<;>rfl
  . show _=_
    rw [List.drop_length,List.drop_of_length_le (by simp),Zc];omega
  . exact (Blk.new _ _ _)
  . exact ext (zD w n) (zf _ _)
 case round=>
  obtain ⟨k,r,Q,hk,rfl,ax,HR,hQ,aZ,HZ,HV,a0,a3⟩:=hrel
  by_cases a6:0<k
  rotate_left
  . obtain rfl:k=0:=by omega
    have aO:=zb2 a0;rw [hQ] at aO
    have HE:=ze (show val 1000000000 Q=a / b/\r=a % b by
     have T:=HV.o;rw [List.drop_zero,List.drop_zero,b4.o] at T;have h2:=HR.o;have h3:=av.o
     constructor
     . rw [T,Nat.mul_comm,Nat.mul_add_div h3,Nat.div_eq_of_lt h2];rfl
     rw [T,Nat.mul_comm,Nat.mul_add_mod,Nat.mod_eq_of_lt h2])
    have bl:F.length<=maxLen:=by unfold maxLen;omega
    have bT:=ze bl;clear bl;go_wp2_with (go_at_call 136;refine (Yz _ _ _ _ _ _ aO aZ (Nat.le_refl _) bT.o).mono ?_;rintro e w' ⟨v,rfl,bU,rfl⟩);go_ret2;exact ⟨v,_,rfl,by rw [<- HE.o.1];exact bU,by rw [<- HE.o.2];exact ax,a3⟩
  obtain ⟨wo,bP⟩:∃ wo:World,wo=wr:=⟨_,rfl⟩
  subst bP;have bh:k - 1<F.length:=by omega
  obtain ⟨b2,u,rfl,bS,N,bE⟩:=b5.at_ (k:=k - 1) bh;rw [vF bh] at N;injection N with N
  subst N;have bW:=(a3.cell (p:=b2.add (k - 1)) (by rw [zz];exact bS)).trans bE;have hi:((k:Int) - 1).toNat=k - 1:=by omega
  have bL:F[k - 1]<1000000000:=b6.get (k - 1) bh;have b8 :=ax;obtain ⟨R0,cr,dr,rfl,r1,r2,bI,r4,bf⟩:=ax
  have cv:dr.length<=33554432:=by
   have h5:val 1000000000 dr<val 1000000000 db:=by rw [bf,bm.o];exact HR.o
   have:=yW.length_le (by omega) r4 bw.o (Nat.le_of_lt h5)
   omega
  have bz:(wo.alloc (.cells #[.int .i64 ((F[k - 1]:Nat):Int)] 3)).ownsRow wo.heap.size 3 1 (.slice (some ⟨wo.heap.size,0,none⟩) 1 1) 1 (Yd [F[k - 1]]):=zt3 (Nat.le_refl _);have bC :=(bI.below (zf wo (.cells #[.int .i64 ((F[k - 1]:Nat):Int)] 3)));have bu:=zd7 dr;have bO:=ze bf;have bN:=ze r4;clear bf r4 b8 r1 r2 bE;go_wp2_with (at_builtin;refine yj _ rfl (.tmp 32) (.tmp 33) _ rfl wo.heap.size 3 i0 _ 1 8 underlying62 b7 b1 bZ bQ rfl (by omega) _ 1 (Yd [F[k - 1]]) rfl bz _ R0 dr.length cr (Yd dr) rfl bC bu ?o2 ?o3 ?o4 ?_)
  case o2=>unfold maxLen;omega
  case o3=>omega
  case o4=>simp
  intro v3 w3 bp bK b9;have bx :w3.ownsRow wo.heap.size 3 1 v3 (1+dr.length) (Yd (F[k - 1] :: dr)):=bp;obtain ⟨g,cg,rfl,cj,bB,V,aO⟩:=zl4 bx (by omega);have cu:w.heap.size<g:=by have:=a0.lt;omega
  have bc:Below wo.heap.size wo w3:=zo4 bK;have bi:=ext a3 bc;have bs:=a0.below bc a0.lt;have bF:zI 1000000000 (F[k - 1] :: dr):=zI.cons bL bN.o.1;have Y:=ze V;have bY:=ze (show val 1000000000 (F[k - 1] :: dr)=F[k - 1]+1000000000*r by rw [YY,bO.o]);have b3:=ze bL;clear bp bx bK b9 V bz bC bI bu bW bc a3 a0;go_wp2_with fail;refine (zfh _ _ _ _ _ _ aO bF bB Y.o).mono ?_;rintro e w4 ⟨kr,rfl,ax,rfl⟩;rw [bY.o] at ax;obtain ⟨R,be⟩:∃ R,R=F[k - 1]+1000000000*r:=⟨_,rfl⟩;rw [<- be] at ax;have aa:=ze be;have K:=ze ax;have a5:R<1000000000*b:=by have:=HR.o;have:=b3.o;omega
  have bH:len 1000000000 R<=33554433:=by
   have h5:=vI (β:=1000000000) (by omega) (Nat.le_of_lt a5);have h6:=VS (β:=1000000000) (by omega) 1000000000 b
   have h7:len 1000000000 1000000000=2:=by
    unfold len;rw [Yc (by omega) (by omega),Yc (by omega) (by omega),ZH];rfl
   have h8:=al.o
   have h9:R<1000000000 ^ (len 1000000000 b+1):=by
    rw [Nat.pow_succ,Nat.mul_comm];exact Nat.lt_of_lt_of_le a5 (Nat.mul_le_mul (Nat.le_refl _) (Nat.le_of_lt (vy (by omega) b)))
   exact Nat.le_trans (yv (by omega) h9) (by omega)
  have aq:=ze bH;have a8:=ze a5;have O:=fun w T h2=>Zw (.slice (some ⟨g,0,none⟩) kr cg) (.slice B db.length cb) R b w T h2 (Nat.le_trans aq.o (by omega)) (Nat.le_trans al.o (by omega))
  have aI:=ze bi;have aL:=ze bs;have aM:=ze (zy.below au.o bi);clear ax be aO bF bB bH a5 bi bs
  by_cases ar:R<b
  . have e1:zP (R:Int) b= -1:=by unfold zP;rw [if_pos (by omega)]
    rw [e1] at O;have cc:=ze ar;clear e1 ar;go_wp2_with fail;refine (O _ K.o aM.o).mono ?_;rintro e w5 ⟨rfl,S,rfl⟩;go_wp2_with fail;go_roundw
    case rel=>exact zre.skip a6 hk hQ aZ HZ HV (aL.o.drewN S) (zo aI.o S) (by rw [<- aa.o];exact zy.below K.o (zD _ S)) (by rw [<- aa.o];exact cc.o) (by go_num)
    case measure=>simp [intOf];omega
  have hc:∃ c:Int,zP (R:Int) b=c/\¬ c<0:=by
   unfold zP;rw [if_neg (by omega)]
   split
   . exact ⟨1,rfl,by omega⟩
   exact ⟨0,rfl,by omega⟩
  obtain ⟨c1,G,cq⟩:=hc;rw [G] at O;have bn:=K.o;have bX:=ze ar;clear G ar
  by_cases aY:db.length=1
  rotate_left
  . have b0:((db.length:Int) == 1)=false:=by rw [beq_eq_false_iff_ne];omega
    clear aY bn;go_wp2_with fail;refine (O _ K.o aM.o).mono ?_;rintro e w5 ⟨rfl,S,rfl⟩;go_wp2_with fail
    go_loopw [9,10] (zya b R Q w (.slice (some ⟨g,0,none⟩) kr cg)) (fun lv hv _=>(intOf hv - intOf lv).toNat)
    case atStart=>exact ⟨0,999999999,by omega,by omega,rfl,rfl,ze (by omega),ze (by have:=a8.o;omega),zy.below K.o (zD _ S),aL.o.drewN S,zo aI.o S⟩
    case round=>
     clear K aL aI aM;obtain ⟨lo,hi,bJ,aD,rfl,rfl,am,ak,U,z,I⟩:=hrel
     by_cases aJ:lo<hi
     rotate_left
     . obtain rfl:lo=hi:=by omega
       have aP:=z.frozen (k - 1);have aV:=z.lt;have aX:=(z.cell (k - 1)).trans (XB (by omega));have bq:(k:Int) - 1<(F.length:Int):=by omega
       have l:Below w.heap.size w (wr.setCell ⟨w.heap.size,k - 1,none⟩ (.int .i64 (lo:Int))):=I.setCell (Nat.le_refl _) _;have aj:=z.set_ (k - 1) (.int .i64 (lo:Int));rw [Xy] at aj;have aC:=ziu (q:=w.heap.size) (i:=k - 1) (u:=.int .i64 (lo:Int)) U (by omega);have D:=ze l;have y:=ze aj;have ae:=ze aC;clear z I U l aj aC aJ;have aw:(wr.setCell ⟨w.heap.size,k - 1,none⟩ (.int .i64 (lo:Int))).heap.size=wr.heap.size:=by simp [World.setCell]
       have ay:=ze aw;have E:=ze (And.intro aD (And.intro am.o ak.o));clear aw am ak;go_wp2_with fail;rw [<- ay.o];generalize wr.setCell ⟨w.heap.size,k - 1,none⟩ (.int .i64 (lo:Int))=W2 at D y ae ay |-;clear aX aP aV;have l:=zf W2 (.cells #[.int .i64 (lo:Int)] 3);have aK:1<=maxLen:=by unfold maxLen;decide
       refine (Yz _ 1 1 [lo] _ _ (xJ W2 3 (.int .i64 (lo:Int))) (fun x N=>by rw [List.mem_singleton] at N;have:=E.o.1;omega) (Nat.le_refl _) aK).mono ?_;rintro e w8 ⟨vd,rfl,af,rfl⟩;rw [YM] at af;have aQ:=ze (show zy _ vd lo from (V7.more af (by simp)));have ag:=ze (ext D.o l);have ab:=ze (y.o.below l y.o.lt);have aG:=ze (zy.below ae.o l);clear af l aK D y ae;have aR:=ze (show len 1000000000 lo<=67108864 from Nat.le_trans (yv (k:=1) (by omega) (by have:=E.o.1;omega)) (by omega));go_wp2_with fail;refine (vt _ vd b lo _ (zy.below au.o ag.o) aQ.o (Nat.le_trans al.o (by omega)) aR.o).mono ?_;rintro e w9 ⟨v9,rfl,aH,M⟩;have aW:=ze aH;have ad:=ze (ext ag.o M);have ao:=ze (ab.o.below M ab.o.lt);have aE:=ze (zy.below aG.o M);clear aH M ag ab aG;go_wp2_with fail;refine (Vk _ v9 R (b*lo) w9 aE.o aW.o (by rw [Nat.mul_comm];exact E.o.2.1) (Nat.le_trans aq.o (by omega))).mono ?_;rintro e bG ⟨bA,rfl,aF,an⟩;have aS:=ze aF;have aU:=ze (ext ad.o an)
       have aT:=ze (ao.o.below an ao.o.lt);clear aF an ad ao aE;go_wp2_with fail;go_roundw
       case rel=>exact zre.digit a6 hk hQ aZ HZ HV av.o aT.o aU.o E.o.1 (by rw [<- aa.o];exact E.o.2.1) (by rw [<- aa.o];exact E.o.2.2) (by rw [<- aa.o];exact aS.o) (by go_num)
       case measure=>simp [intOf];omega
     obtain ⟨j,aB⟩:∃ j,j=(lo+hi+1) / 2:=⟨_,rfl⟩
     obtain ⟨m1,m2⟩:=zbe aJ;rw [<- aB] at m1 m2;have bM:((lo:Int)+(hi:Int)+1) / 2=(j:Int):=by omega
     have l:=zf wr (.cells #[.int .i64 (j:Int)] 3);have HT:=ze (fun T=>vt (.slice B db.length cb) _ b j (wr.alloc (.cells #[.int .i64 (j:Int)] 3)) (zy.below au.o (ext I l)) (zeg wr (by omega) (by omega)) (Nat.le_trans al.o (by omega)) T);have aA:=ze (show len 1000000000 j<=67108864 by rw [Zk (by omega) (by omega)];omega);have az:=ze (show len 1000000000 (b*j)<=67108864 from Nat.le_trans (VS (by omega) _ _) (by have:=al.o;rw [Zk (n:=j) (by omega) (by omega)];omega));have y:=ze (z.below l z.lt);have D:=ze (ext I l);have X:=ze (zy.below U l);clear aB U z I l
     by_cases V:b*j<=R
     rotate_left
     . have ai:=ze (show zP ((b*j:Nat):Int) (R:Int)=1 by unfold zP;rw [if_neg (by omega),if_pos (by omega)])
       have Y:=ze (show R<(j - 1+1)*b by rw [show j - 1+1=j by omega,Nat.mul_comm];omega);clear V;go_wp2_with fail;refine (HT.o aA.o).mono ?_;rintro e w6 ⟨Z,rfl,J,m⟩;have L:=ze (Zw Z (.slice (some ⟨g,0,none⟩) kr cg) (b*j) R w6 J (zy.below X.o m) az.o (Nat.le_trans aq.o (by omega)));have ac:=ze (y.o.below m y.o.lt);have ah:=ze (ext D.o m);have ap:=ze (zy.below X.o m);clear J m;rw [ai.o] at L;go_wp2_with fail;refine L.o.mono ?_;rintro e w7 ⟨rfl,C,rfl⟩;go_wp2_with fail;go_roundw
       case rel=>exact ⟨lo,j - 1,by omega,by omega,rfl,congrArg _ (by omega),am,Y,zy.below ap.o (zD _ C),ac.o.drewN C,zo ah.o C⟩
       case measure=>simp [intOf];omega
     have G:∃ c:Int,zP ((b*j:Nat):Int) (R:Int)=c/\c<=0:=by
      unfold zP
      by_cases h9:b*j<R
      . exact ⟨-1,by rw [if_pos (by omega)],by omega⟩
      exact ⟨0,by rw [if_neg (by omega),if_neg (by omega)],by omega⟩
     obtain ⟨c1,G,bo⟩:=G;have ai:=ze G;have Y:=ze (show j*b<=R by rw [Nat.mul_comm];exact V);clear G V;go_wp2_with fail;refine (HT.o aA.o).mono ?_;rintro e w6 ⟨Z,rfl,J,m⟩;have L:=ze (Zw Z (.slice (some ⟨g,0,none⟩) kr cg) (b*j) R w6 J (zy.below X.o m) az.o (Nat.le_trans aq.o (by omega)));have ac:=ze (y.o.below m y.o.lt);have ah:=ze (ext D.o m);have ap:=ze (zy.below X.o m);clear J m;rw [ai.o] at L;go_wp2_with fail;refine L.o.mono ?_;rintro e w7 ⟨rfl,C,rfl⟩;go_wp2_with fail;go_roundw
     case rel=>exact ⟨j,hi,m2,aD,rfl,rfl,Y,ak,zy.below ap.o (zD _ C),ac.o.drewN C,zo ah.o C⟩
     case measure=>simp [intOf];omega
  have b0:((db.length:Int) == 1)=true:=by rw [aY];rfl
  have bb:db[0]'(by omega)=b:=by
   rw [<- bm.o]
   match db,aY with
   | [x],_=>simp [val]
  have M:b<1000000000:=by rw [<- bb];exact bw.o.1.get 0 (by omega)
  obtain ⟨a2,u,rfl,cd,N,br⟩:=bR.at_ (k:=0) (by omega);rw [vF (by omega),bb] at N;injection N with N
  subst N;obtain ⟨A',c',ds,e,j1,j2,j3,j4,j5⟩:=bn;injection e with e1 e2 e3
  subst e1 e2 e3;have a4:R<1000000000 ^ 2:=by have:=a8.o;have:1000000000*b<=1000000000*1000000000:=Nat.mul_le_mul (Nat.le_refl _) (by omega);omega
  have bj:ds.length<=2:=yW.length_lt_pow (by omega) j4 (by rw [j5];exact a4);have cl:w3.cell? a2=some (.int .i64 (b:Int)):=(aI.o.cell (p:=a2) cd).trans (by have:=br;simpa [Addr.add] using this);have cp:¬ b=0:=by have:=av.o;omega
  have ch :((b:Int) == 0)=false:=by rw [beq_eq_false_iff_ne];omega
  have ck:¬ (b:Int)=0:=by omega
  have cm:0<db.length:=by omega
  have bv:(1000000000:Nat) ^ 2=1000000000000000000:=by decide
  have ce:R<1000000000000000000:=by rw [bv] at a4;exact a4
  clear bv;have aN:=ze (zmm (n:=R) (d:=b) av.o a8.o);obtain ⟨q0,bk⟩:∃ q0,q0=R / b:=⟨_,rfl⟩;rw [<- bk] at aN;have ad:=ze (zov ce av.o bk);clear a4 br bb bk M
  match ds,bj,j3,j4,j5,K,bN,O with
  | [],_,_,_,j5,_,_,_=>exact absurd (show R=0 from j5.symm) (by have:=bX.o;have:=av.o;omega)
  | [y0],_,j3,j4,j5,K,_,O=>
    have hy:y0=R:=by rw [<- j5,YM]
    subst hy;have bg:=YI j3 0 (.int .i64 (y0:Int)) (by simp [Yd]);have cf:=K.o.lt9 (by simp)
    simp [Addr.add] at bg
    clear j3 j4 j5 aY;go_wp2_with fail;refine (O _ K.o aM.o).mono ?_;rintro e w5 ⟨rfl,S,rfl⟩;go_wp2_with fail
    go_quiet (fail)
    rw [ad.o];go_wp2_with fail
    go_loopw [9,10] (zya b y0 Q w (.slice (some ⟨g,0,none⟩) [y0].length cg)) (fun lv hv _=>(intOf hv - intOf lv).toNat)
    case atStart=>exact ⟨q0,q0,Nat.le_refl _,aN.o.1,rfl,rfl,ze aN.o.2.1,ze aN.o.2.2,zy.below K.o (ext (zD _ S) (zD _ nq)),(aL.o.drewN S).drewN nq,zo (zo aI.o S) nq⟩
    case round=>
     clear K aL aI aM;obtain ⟨lo,hi,bJ,aD,rfl,rfl,am,ak,U,z,I⟩:=hrel
     by_cases aJ:lo<hi
     rotate_left
     . obtain rfl:lo=hi:=by omega
       have aP:=z.frozen (k - 1);have aV:=z.lt;have aX:=(z.cell (k - 1)).trans (XB (by omega));have bq:(k:Int) - 1<(F.length:Int):=by omega
       have l:Below w.heap.size w (wr.setCell ⟨w.heap.size,k - 1,none⟩ (.int .i64 (lo:Int))):=I.setCell (Nat.le_refl _) _;have aj:=z.set_ (k - 1) (.int .i64 (lo:Int));rw [Xy] at aj;have aC:=ziu (q:=w.heap.size) (i:=k - 1) (u:=.int .i64 (lo:Int)) U (by omega);have D:=ze l;have y:=ze aj;have ae:=ze aC;clear z I U l aj aC aJ;have aw:(wr.setCell ⟨w.heap.size,k - 1,none⟩ (.int .i64 (lo:Int))).heap.size=wr.heap.size:=by simp [World.setCell]
       have ay:=ze aw;have E:=ze (And.intro aD (And.intro am.o ak.o));clear aw am ak;go_wp2_with fail;rw [<- ay.o];generalize wr.setCell ⟨w.heap.size,k - 1,none⟩ (.int .i64 (lo:Int))=W2 at D y ae ay |-;clear aX aP aV;have l:=zf W2 (.cells #[.int .i64 (lo:Int)] 3);have aK:1<=maxLen:=by unfold maxLen;decide
       refine (Yz _ 1 1 [lo] _ _ (xJ W2 3 (.int .i64 (lo:Int))) (fun x N=>by rw [List.mem_singleton] at N;have:=E.o.1;omega) (Nat.le_refl _) aK).mono ?_;rintro e w8 ⟨vd,rfl,af,rfl⟩;rw [YM] at af;have aQ:=ze (show zy _ vd lo from (V7.more af (by simp)));have ag:=ze (ext D.o l);have ab:=ze (y.o.below l y.o.lt);have aG:=ze (zy.below ae.o l);clear af l aK D y ae;have aR:=ze (show len 1000000000 lo<=67108864 from Nat.le_trans (yv (k:=1) (by omega) (by have:=E.o.1;omega)) (by omega));go_wp2_with fail;refine (vt _ vd b lo _ (zy.below au.o ag.o) aQ.o (Nat.le_trans al.o (by omega)) aR.o).mono ?_;rintro e w9 ⟨v9,rfl,aH,M⟩;have aW:=ze aH;have ad:=ze (ext ag.o M);have ao:=ze (ab.o.below M ab.o.lt);have aE:=ze (zy.below aG.o M);clear aH M ag ab aG;go_wp2_with fail;refine (Vk _ v9 y0 (b*lo) w9 aE.o aW.o (by rw [Nat.mul_comm];exact E.o.2.1) (Nat.le_trans aq.o (by omega))).mono ?_;rintro e bG ⟨bA,rfl,aF,an⟩;have aS:=ze aF;have aU:=ze (ext ad.o an)
       have aT:=ze (ao.o.below an ao.o.lt);clear aF an ad ao aE;go_wp2_with fail;go_roundw
       case rel=>exact zre.digit a6 hk hQ aZ HZ HV av.o aT.o aU.o E.o.1 (by rw [<- aa.o];exact E.o.2.1) (by rw [<- aa.o];exact E.o.2.2) (by rw [<- aa.o];exact aS.o) (by go_num)
       case measure=>simp [intOf];omega
     obtain ⟨j,aB⟩:∃ j,j=(lo+hi+1) / 2:=⟨_,rfl⟩
     obtain ⟨m1,m2⟩:=zbe aJ;rw [<- aB] at m1 m2;have bM:((lo:Int)+(hi:Int)+1) / 2=(j:Int):=by omega
     have l:=zf wr (.cells #[.int .i64 (j:Int)] 3);have HT:=ze (fun T=>vt (.slice (some a2) db.length cb) _ b j (wr.alloc (.cells #[.int .i64 (j:Int)] 3)) (zy.below au.o (ext I l)) (zeg wr (by omega) (by omega)) (Nat.le_trans al.o (by omega)) T);have aA:=ze (show len 1000000000 j<=67108864 by rw [Zk (by omega) (by omega)];omega);have az:=ze (show len 1000000000 (b*j)<=67108864 from Nat.le_trans (VS (by omega) _ _) (by have:=al.o;rw [Zk (n:=j) (by omega) (by omega)];omega));have y:=ze (z.below l z.lt);have D:=ze (ext I l);have X:=ze (zy.below U l);clear aB U z I l
     by_cases V:b*j<=y0
     rotate_left
     . have ai:=ze (show zP ((b*j:Nat):Int) (y0:Int)=1 by unfold zP;rw [if_neg (by omega),if_pos (by omega)])
       have Y:=ze (show y0<(j - 1+1)*b by rw [show j - 1+1=j by omega,Nat.mul_comm];omega);clear V;go_wp2_with fail;refine (HT.o aA.o).mono ?_;rintro e w6 ⟨Z,rfl,J,m⟩;have L:=ze (Zw Z (.slice (some ⟨g,0,none⟩) [y0].length cg) (b*j) y0 w6 J (zy.below X.o m) az.o (Nat.le_trans aq.o (by omega)));have ac:=ze (y.o.below m y.o.lt);have ah:=ze (ext D.o m);have ap:=ze (zy.below X.o m);clear J m;rw [ai.o] at L;go_wp2_with fail;refine L.o.mono ?_;rintro e w7 ⟨rfl,C,rfl⟩;go_wp2_with fail;go_roundw
       case rel=>exact ⟨lo,j - 1,by omega,by omega,rfl,congrArg _ (by omega),am,Y,zy.below ap.o (zD _ C),ac.o.drewN C,zo ah.o C⟩
       case measure=>simp [intOf];omega
     have G:∃ c:Int,zP ((b*j:Nat):Int) (y0:Int)=c/\c<=0:=by
      unfold zP
      by_cases h9:b*j<y0
      . exact ⟨-1,by rw [if_pos (by omega)],by omega⟩
      exact ⟨0,by rw [if_neg (by omega),if_neg (by omega)],by omega⟩
     obtain ⟨c1,G,bo⟩:=G;have ai:=ze G;have Y:=ze (show j*b<=y0 by rw [Nat.mul_comm];exact V);clear G V;go_wp2_with fail;refine (HT.o aA.o).mono ?_;rintro e w6 ⟨Z,rfl,J,m⟩;have L:=ze (Zw Z (.slice (some ⟨g,0,none⟩) [y0].length cg) (b*j) y0 w6 J (zy.below X.o m) az.o (Nat.le_trans aq.o (by omega)));have ac:=ze (y.o.below m y.o.lt);have ah:=ze (ext D.o m);have ap:=ze (zy.below X.o m);clear J m;rw [ai.o] at L;go_wp2_with fail;refine L.o.mono ?_;rintro e w7 ⟨rfl,C,rfl⟩;go_wp2_with fail;go_roundw
     case rel=>exact ⟨j,hi,m2,aD,rfl,rfl,Y,ak,zy.below ap.o (zD _ C),ac.o.drewN C,zo ah.o C⟩
     case measure=>simp [intOf];omega
  | [y0,y1],_,j3,j4,j5,K,_,O=>
    have hy:y0+y1*1000000000=R:=by rw [<- j5];simp [val];omega
    have cw:(y0:Int)+(y1:Int)*1000000000=(R:Int):=by omega
    have bg:=YI j3 0 (.int .i64 (y0:Int)) (by simp [Yd]);have bV:=YI j3 1 (.int .i64 (y1:Int)) (by simp [Yd]);have cf:=K.o.lt9 (by simp)
    simp [Addr.add] at bg bV
    have co:y0<1000000000:=by have:=j4.1.get 0 (by simp);simpa using this
    have cn:y1<1000000000:=by have:=j4.1.get 1 (by simp);simpa using this
    clear j3 j4 j5 aY hy;go_wp2_with fail;refine (O _ K.o aM.o).mono ?_;rintro e w5 ⟨rfl,S,rfl⟩;go_wp2_with fail
    go_quiet (fail)
    rw [ad.o];go_wp2_with fail
    go_loopw [9,10] (zya b R Q w (.slice (some ⟨g,0,none⟩) [y0,y1].length cg)) (fun lv hv _=>(intOf hv - intOf lv).toNat)
    case atStart=>exact ⟨q0,q0,Nat.le_refl _,aN.o.1,rfl,rfl,ze aN.o.2.1,ze aN.o.2.2,zy.below K.o (ext (zD _ S) (zD _ nq)),(aL.o.drewN S).drewN nq,zo (zo aI.o S) nq⟩
    case round=>
     clear K aL aI aM;obtain ⟨lo,hi,bJ,aD,rfl,rfl,am,ak,U,z,I⟩:=hrel
     by_cases aJ:lo<hi
     rotate_left
     . obtain rfl:lo=hi:=by omega
       have aP:=z.frozen (k - 1);have aV:=z.lt;have aX:=(z.cell (k - 1)).trans (XB (by omega));have bq:(k:Int) - 1<(F.length:Int):=by omega
       have l:Below w.heap.size w (wr.setCell ⟨w.heap.size,k - 1,none⟩ (.int .i64 (lo:Int))):=I.setCell (Nat.le_refl _) _;have aj:=z.set_ (k - 1) (.int .i64 (lo:Int));rw [Xy] at aj;have aC:=ziu (q:=w.heap.size) (i:=k - 1) (u:=.int .i64 (lo:Int)) U (by omega);have D:=ze l;have y:=ze aj;have ae:=ze aC;clear z I U l aj aC aJ;have aw:(wr.setCell ⟨w.heap.size,k - 1,none⟩ (.int .i64 (lo:Int))).heap.size=wr.heap.size:=by simp [World.setCell]
       have ay:=ze aw;have E:=ze (And.intro aD (And.intro am.o ak.o));clear aw am ak;go_wp2_with fail;rw [<- ay.o];generalize wr.setCell ⟨w.heap.size,k - 1,none⟩ (.int .i64 (lo:Int))=W2 at D y ae ay |-;clear aX aP aV;have l:=zf W2 (.cells #[.int .i64 (lo:Int)] 3);have aK:1<=maxLen:=by unfold maxLen;decide
       refine (Yz _ 1 1 [lo] _ _ (xJ W2 3 (.int .i64 (lo:Int))) (fun x N=>by rw [List.mem_singleton] at N;have:=E.o.1;omega) (Nat.le_refl _) aK).mono ?_;rintro e w8 ⟨vd,rfl,af,rfl⟩;rw [YM] at af;have aQ:=ze (show zy _ vd lo from (V7.more af (by simp)));have ag:=ze (ext D.o l);have ab:=ze (y.o.below l y.o.lt);have aG:=ze (zy.below ae.o l);clear af l aK D y ae;have aR:=ze (show len 1000000000 lo<=67108864 from Nat.le_trans (yv (k:=1) (by omega) (by have:=E.o.1;omega)) (by omega));go_wp2_with fail;refine (vt _ vd b lo _ (zy.below au.o ag.o) aQ.o (Nat.le_trans al.o (by omega)) aR.o).mono ?_;rintro e w9 ⟨v9,rfl,aH,M⟩;have aW:=ze aH;have ad:=ze (ext ag.o M);have ao:=ze (ab.o.below M ab.o.lt);have aE:=ze (zy.below aG.o M);clear aH M ag ab aG;go_wp2_with fail;refine (Vk _ v9 R (b*lo) w9 aE.o aW.o (by rw [Nat.mul_comm];exact E.o.2.1) (Nat.le_trans aq.o (by omega))).mono ?_;rintro e bG ⟨bA,rfl,aF,an⟩;have aS:=ze aF;have aU:=ze (ext ad.o an)
       have aT:=ze (ao.o.below an ao.o.lt);clear aF an ad ao aE;go_wp2_with fail;go_roundw
       case rel=>exact zre.digit a6 hk hQ aZ HZ HV av.o aT.o aU.o E.o.1 (by rw [<- aa.o];exact E.o.2.1) (by rw [<- aa.o];exact E.o.2.2) (by rw [<- aa.o];exact aS.o) (by go_num)
       case measure=>simp [intOf];omega
     obtain ⟨j,aB⟩:∃ j,j=(lo+hi+1) / 2:=⟨_,rfl⟩
     obtain ⟨m1,m2⟩:=zbe aJ;rw [<- aB] at m1 m2;have bM:((lo:Int)+(hi:Int)+1) / 2=(j:Int):=by omega
     have l:=zf wr (.cells #[.int .i64 (j:Int)] 3);have HT:=ze (fun T=>vt (.slice (some a2) db.length cb) _ b j (wr.alloc (.cells #[.int .i64 (j:Int)] 3)) (zy.below au.o (ext I l)) (zeg wr (by omega) (by omega)) (Nat.le_trans al.o (by omega)) T);have aA:=ze (show len 1000000000 j<=67108864 by rw [Zk (by omega) (by omega)];omega);have az:=ze (show len 1000000000 (b*j)<=67108864 from Nat.le_trans (VS (by omega) _ _) (by have:=al.o;rw [Zk (n:=j) (by omega) (by omega)];omega));have y:=ze (z.below l z.lt);have D:=ze (ext I l);have X:=ze (zy.below U l);clear aB U z I l
     by_cases V:b*j<=R
     rotate_left
     . have ai:=ze (show zP ((b*j:Nat):Int) (R:Int)=1 by unfold zP;rw [if_neg (by omega),if_pos (by omega)])
       have Y:=ze (show R<(j - 1+1)*b by rw [show j - 1+1=j by omega,Nat.mul_comm];omega);clear V;go_wp2_with fail;refine (HT.o aA.o).mono ?_;rintro e w6 ⟨Z,rfl,J,m⟩;have L:=ze (Zw Z (.slice (some ⟨g,0,none⟩) [y0,y1].length cg) (b*j) R w6 J (zy.below X.o m) az.o (Nat.le_trans aq.o (by omega)));have ac:=ze (y.o.below m y.o.lt);have ah:=ze (ext D.o m);have ap:=ze (zy.below X.o m);clear J m;rw [ai.o] at L;go_wp2_with fail;refine L.o.mono ?_;rintro e w7 ⟨rfl,C,rfl⟩;go_wp2_with fail;go_roundw
       case rel=>exact ⟨lo,j - 1,by omega,by omega,rfl,congrArg _ (by omega),am,Y,zy.below ap.o (zD _ C),ac.o.drewN C,zo ah.o C⟩
       case measure=>simp [intOf];omega
     have G:∃ c:Int,zP ((b*j:Nat):Int) (R:Int)=c/\c<=0:=by
      unfold zP
      by_cases h9:b*j<R
      . exact ⟨-1,by rw [if_pos (by omega)],by omega⟩
      exact ⟨0,by rw [if_neg (by omega),if_neg (by omega)],by omega⟩
     obtain ⟨c1,G,bo⟩:=G;have ai:=ze G;have Y:=ze (show j*b<=R by rw [Nat.mul_comm];exact V);clear G V;go_wp2_with fail;refine (HT.o aA.o).mono ?_;rintro e w6 ⟨Z,rfl,J,m⟩;have L:=ze (Zw Z (.slice (some ⟨g,0,none⟩) [y0,y1].length cg) (b*j) R w6 J (zy.below X.o m) az.o (Nat.le_trans aq.o (by omega)));have ac:=ze (y.o.below m y.o.lt);have ah:=ze (ext D.o m);have ap:=ze (zy.below X.o m);clear J m;rw [ai.o] at L;go_wp2_with fail;refine L.o.mono ?_;rintro e w7 ⟨rfl,C,rfl⟩;go_wp2_with fail;go_roundw
     case rel=>exact ⟨j,hi,m2,aD,rfl,rfl,Y,ak,zy.below ap.o (zD _ C),ac.o.drewN C,zo ah.o C⟩
     case measure=>simp [intOf];omega
  | _ :: _ :: _ :: _,bj,_,_,_,_,_,_=>simp at bj
def zxk (β:Nat) (w:World) (v:Value):Nat:=match v with
 | .slice (some ad) n _=>val β ((List.range n).map fun i=>match w.cell? (ad.add i) with
   | some (.int _ z)=>z.toNat
   | _=>0)
 | _=>0
def zib (w:World) (v:Value):Nat:=zxk 1000000000 w v
theorem zh1 {w:World} {v:Value} {n:Nat} (h:zy w v n):zib w v=n:=by
 obtain ⟨A,c,ds,rfl,u,r,b,y,rfl⟩:=h
 unfold zib zxk
 rcases A with _ | m
 . have j:ds=[]:=by
    apply List.eq_nil_of_length_eq_zero
    rcases Nat.eq_zero_or_pos ds.length with h | h
    . exact h
    . obtain ⟨m,e,_⟩:=b.2 h
      cases e
   subst j;rfl
 . simp only
   congr 1
   apply List.ext_getElem
   . simp
   intro i z l
   have:=YI b i _ (vF l)
   simp [this]
def ComR (w:World) (G:Nat) (v0 v1:Value) (wr:World):Prop:=
 ∃ x y:Nat,zy wr v0 x/\zy wr v1 y/\Hid (Nat.gcd x y=G)/\Hid (len 1000000000 x<=33554432)/\Hid (len 1000000000 y<=33554432)/\Below w.heap.size w wr
theorem zne (va vb:Value) (a b:Nat) (w:World) (ha:zy w va a) (hb:zy w vb b) (hla:len 1000000000 a<=33554432) (hlb:len 1000000000 b<=33554432):
 Calls Tryz.prog 134 #[va,vb] w (zfc w (Nat.gcd a b)):=by
 have V:=ze hla
 have Z:=ze hlb
 clear hla hlb
 go_enter func134,ntmps134
 go_wp2
 go_loopw [0,1] (ComR w (Nat.gcd a b)) (fun _ N wr=>zib wr N)
 case atStart=>exact ⟨a,b,ha,hb,rfl,V,Z,Below.refl _ _⟩
 case round=>
  obtain ⟨x,y,Q,C,S,Y,l,u⟩:=hrel
  have L:=zh1 C
  have R:=C
  obtain ⟨B,G,j,rfl,k1,k2,ab,E,D⟩:=C
  have U:=ze L
  have O:=ze D
  have z:=E.length_eq (β:=1000000000) (by omega)
  rw [D] at z
  have ac:j.length<=33554432:=by rw [z];exact l.o
  clear L D z k2
  by_cases m:j.length=0
  . have hd:j=[]:=List.eq_nil_of_length_eq_zero m
    have J:y=0:=by have:=O.o;rw [hd,Zc] at this;omega
    have I:x=Nat.gcd a b:=by have:=S.o;rw [J,Nat.gcd_zero_right] at this;exact this
    have aa:=ze I;have ae:¬ (0:Int)<(j.length:Int):=by omega
    clear hd J I m;go_wp2;go_ret;exact ⟨_,rfl,by rw [<- aa.o];exact Q,u⟩
  have F:0<j.length:=by omega
  have r:0<y:=by
   rcases Nat.eq_zero_or_pos y with e | e
   . exfalso
     have h:=O.o;rw [e] at h;have:=(E.zero_iff (by omega)).1 h;rw [this] at F;simp at F
   . exact e
  have HZ:=ze m;have T:=ze (Xj _ (.slice B j.length G) x y wr Q R r Y.o l.o);clear m;go_wp2_with (go_at_call 135;refine (zK T).mono ?_;rintro e w1 ⟨N,X,rfl,ad,M,K⟩);go_roundw
  case rel=>
   refine ⟨y,x % y,zy.below R K,M,?_,l,?_,u.trans (K.mono u.size)⟩
   rotate_left
   . exact Nat.le_trans (vI (by omega) (Nat.le_of_lt (Nat.mod_lt _ r))) l.o
   show _=_
   rw [<- S.o,Nat.gcd_comm x y,Nat.gcd_rec y x,Nat.gcd_comm]
  case measure=>
   show zib w1 X<zib wr (.slice B j.length G)
   rw [zh1 M,U.o];exact Nat.mod_lt _ r
def xf (w:World) (v:Value) (q:Rat):Prop:=
 ∃ ng A n c B m d,v= .agg #[.bool ng,.slice A n c,.slice B m d]/\ng=decide (q.num<0)/\zy w (.slice A n c) q.num.natAbs/\zy w (.slice B m d) q.den
theorem xf.below {w w' :World} {v:Value} {q:Rat} (h:xf w v q) (hb:Below w.heap.size w w'):xf w' v q:=by
 obtain ⟨ng,A,n,c,B,m,d,b,l,j,e⟩:=h
 exact ⟨ng,A,n,c,B,m,d,b,l,zy.below j hb,zy.below e hb⟩
def Vc (w:World) (q:Rat) (e:Ending) (w' :World):Prop:=∃ v,e= .returned v/\xf w' v q/\Below w.heap.size w w'
abbrev World.ref (w:World) (g:Nat) (ng:Bool) (A:Option Addr) (n c:Nat) (B:Option Addr) (m d:Nat):World:=
 ((w.setCell ⟨g,0,none⟩ (.bool ng)).setCell ⟨g,1,none⟩ (.slice A n c)).setCell ⟨g,2,none⟩ (.slice B m d)
def zn3 (cs:Array Value):Prop:=∀ (i:Nat) (d:Int),cs[i]?≠some (.int .i64 d)
theorem zn7 (ng:Bool) (A:Option Addr) (n c:Nat) (B:Option Addr) (m d:Nat):zn3 #[.bool ng,.slice A n c,.slice B m d]:=by
 intro i z h
 match i with
 | 0=>simp at h
 | 1=>simp at h
 | 2=>simp at h
 | n+3=>simp at h
theorem zy.stored {w w' :World} {g:Nat} {t:TypeId} {cs:Array Value} {v:Value} {n:Nat} (h:zy w v n) (hb:Blk w g t cs) (hno:zn3 cs)
 (hk:∀ p:Addr,p.block≠g->w'.cell? p=w.cell? p) (hs:w.heap.size<=w'.heap.size):zy w' v n:=by
 obtain ⟨A,c',ds,rfl,D,C,l,E,B⟩:=h
 refine ⟨A,c',ds,rfl,D,C,⟨l.1,?_⟩,E,B⟩
 intro r
 obtain ⟨y,rfl,F,m⟩:=l.2 r
 have z:y.block≠g:=by
  intro e
  have b:=m 0 _ (vF r)
  unfold World.cell? at b
  rw [zz,e,show w.heap[g]?=_ from hb] at b
  simp only at b
  split at b
  . cases b
  exact hno _ _ b
 exact ⟨y,rfl,by omega,fun j u hu=>(hk _ (by rw [zz];exact z)).trans (m j u hu)⟩
section
variable {W w:World} {g:Nat} {t:TypeId} {ng n0:Bool} {A B A0 B0:Option Addr} {n c m d k0 c0 k1 c1 x:Nat} {v:Value}
theorem yT (hk:Blk W g t #[.bool n0,.slice A0 k0 c0,.slice B0 k1 c1]):Blk (World.ref W g ng A n c B m d) g t #[.bool ng,.slice A n c,.slice B m d]:=((hk.set_ 0 _).set_ 1 _).set_ 2 _
theorem yf (hv:zy W v x) (hk:Blk W g t #[.bool n0,.slice A0 k0 c0,.slice B0 k1 c1]):zy (World.ref W g ng A n c B m d) v x:=by
 refine hv.stored hk (zn7 _ _ _ _ _ _ _) ?_ (by simp [World.ref,World.setCell])
 intro p b
 simp only [World.ref]
 rw [World.cell?_setCell_other,World.cell?_setCell_other,World.cell?_setCell_other]
 all_goals (intro e;subst e;exact b rfl)
theorem yK (h:Below w.heap.size w W) (hg:w.heap.size<=g):Below w.heap.size w (World.ref W g ng A n c B m d):=((h.setCell hg _).setCell hg _).setCell hg _
theorem zur {g' :Nat} {cs:Array Value} (hk:Blk W g t cs) (hne:g≠g'):Blk (World.ref W g' ng A n c B m d) g t cs:=((hk.far hne _).far hne _).far hne _
end
theorem zy.form {w:World} {v:Value} {n:Nat} (h:zy w v n):∃ A c,v= .slice A (len 1000000000 n) c:=by
 obtain ⟨A,c,ds,rfl,e,l,j,b,rfl⟩:=h
 exact ⟨A,c,by rw [b.length_eq (by omega)]⟩
theorem zgc (z:Int) (m:Nat) (hm:0<m):(Rat.divInt z m).num=z.tdiv ((Nat.gcd z.natAbs m:Nat):Int)/\((Rat.divInt z m).den:Int)=(m:Int) / ((Nat.gcd z.natAbs m:Nat):Int):=by
 have e:(m:Int).gcd z=Nat.gcd z.natAbs m:=by show Nat.gcd _ _=_;rw [Int.natAbs_natCast,Nat.gcd_comm]
 have b:(m:Int).sign=1:=Int.sign_eq_one_of_pos (by omega)
 constructor
 . rw [Rat.num_divInt,e,b,Int.one_mul,Int.tdiv_eq_ediv_of_dvd]
   exact Int.ofNat_dvd_left.2 (Nat.gcd_dvd_left _ _)
 rw [Rat.den_divInt,if_neg (by omega),e,Int.natAbs_natCast]
 rfl
theorem zih (neg:Bool) (n d:Nat) (hd:0<d):
 (vj neg n d).num.natAbs=n / Nat.gcd n d/\(vj neg n d).den=d / Nat.gcd n d/\decide ((vj neg n d).num<0)=(neg && decide (n≠0)):=by
 have u:0<Nat.gcd n d:=Nat.gcd_pos_of_pos_right _ hd
 have j:(if neg=true then -(n:Int) else n).natAbs=n:=by cases neg<;>simp
 obtain ⟨m,e⟩:=zgc (if neg=true then -(n:Int) else n) d hd
 rw [j] at m e
 have l:(vj neg n d).num=(if neg=true then -(n:Int) else n).tdiv ((Nat.gcd n d:Nat):Int):=m
 have z:((vj neg n d).den:Int)=(d:Int) / ((Nat.gcd n d:Nat):Int):=e
 refine ⟨?_,?_,?_⟩
 . rw [l,Int.natAbs_tdiv,j];rfl
 . have:(d:Int) / ((Nat.gcd n d:Nat):Int)=((d / Nat.gcd n d:Nat):Int):=rfl
   omega
 . rw [l]
   have y:0<n->0<n / Nat.gcd n d:=fun h=>Nat.div_pos (Nat.le_of_dvd h (Nat.gcd_dvd_left _ _)) u
   cases neg with
   | true=>
     simp only [if_true,Int.neg_tdiv,Bool.true_and];have b:((n:Int)).tdiv ((Nat.gcd n d:Nat):Int)=((n / Nat.gcd n d:Nat):Int):=rfl;rw [b];rw [Bool.eq_iff_iff,decide_eq_true_iff,decide_eq_true_iff]
     constructor
     . intro h r;rw [r,Nat.zero_div] at h;omega
     intro h;have:=y (by omega);omega
   | false=>
     have b:(if false=true then -(n:Int) else n).tdiv ((Nat.gcd n d:Nat):Int)=((n / Nat.gcd n d:Nat):Int):=rfl;rw [b,Bool.false_and,decide_eq_false_iff_not];exact Int.not_lt.2 (Int.natCast_nonneg _)
theorem zy.first {w:World} {A:Option Addr} {k c n:Nat} (h:zy w (.slice A k c) n) (hn:len 1000000000 n=1):∃ b,A=some b/\k=1/\b.block<w.heap.size/\w.cell? b=some (.int .i64 (n:Int)):=by
 obtain ⟨A',c',ds,e,z,y,j,m,rfl⟩:=h
 injection e with e1 e2 e3
 subst e1 e2 e3
 rw [<- m.length_eq (by omega)] at hn
 match ds,hn,j with
 | [x],_,j=>
   obtain ⟨b,u,rfl,hb,l,r⟩:=j.at_ (k:=0) (by simp)
   simp [Yd] at l
   subst l;rw [YM];exact ⟨b,rfl,rfl,hb,by simpa [Addr.add] using r⟩
theorem ZO (neg:Bool) (va vb:Value) (n d:Nat) (w:World) (ha:zy w va n) (hb:zy w vb d) (hd:0<d) (hla:len 1000000000 n<=33554432) (hlb:len 1000000000 d<=33554432):
 Calls Tryz.prog 86 #[.bool neg,va,vb] w (Vc w (vj neg n d)):=by
 obtain ⟨A,c,rfl⟩:=ha.form
 obtain ⟨B,c',rfl⟩:=hb.form
 obtain ⟨L1,L2,L3⟩:=zih neg n d hd
 have ae:=zf w (.cells #[.bool false,.slice none 0 0,.slice none 0 0] 64)
 have kR:=Blk.new w 64 #[.bool false,.slice none 0 0,.slice none 0 0]
 have HA:=ze (zy.below ha ae)
 have HB:=ze (zy.below hb ae)
 have HW:=ze ae
 have HK:=ze kR
 have ac:=ze L1
 have aa:=ze L2
 have ab:=ze L3
 have an:=ze hla
 have ag:=ze hlb
 have HD:=ze hd
 clear ha hb ae kR L1 L2 L3 hlb
 by_cases Z:n=0
 . have aD:((len 1000000000 n:Int) == 0)=true:=by rw [Z,Vz];rfl
   have L:=ze Z;clear Z
   go_enter func86,ntmps86
   go_wp2_with fail;refine bodyPost_ret (v:=.agg #[.bool false,.slice none 0 0,.slice (some ⟨w.heap.size+1,0,none⟩) 1 1]) (by simp [results,results86,go_sem]) rfl ?_;have F:=zeg (w.alloc (.cells #[.bool false,.slice none 0 0,.slice (some ⟨w.heap.size+1,0,none⟩) 1 1] 64)) (d:=1) (by omega) (by omega);simp only [World.size_alloc] at F;refine ⟨_,rfl,⟨false,none,0,0,_,1,1,rfl,?_,?_,?_⟩,ext (zf _ _) (zf _ _)⟩
   . rw [ab.o,L.o];simp
   . rw [ac.o,L.o,Nat.zero_div];exact zkk _
   . rw [aa.o,L.o,Nat.gcd_zero_left,Nat.div_self HD.o];exact F
 have aD:((len 1000000000 n:Int) == 0)=false:=by rw [beq_eq_false_iff_ne];have:=zbt (β:=1000000000) (n:=n) (by omega) (by omega);omega
 have ax:=fun w F h2=>zne (.slice A (len 1000000000 n) c) (.slice B (len 1000000000 d) c') n d w F h2 an.o ag.o
 have L:=ze Z;clear Z
 go_enter func86,ntmps86
 go_wp2_with fail;refine (ax _ HA.o HB.o).mono ?_;rintro e w1 ⟨vg,rfl,ah,S⟩;obtain ⟨C,cg,rfl⟩:=ah.form;obtain ⟨G,O⟩:∃ G,G=Nat.gcd n d:=⟨_,rfl⟩;rw [<- O] at ah;have X:=ze O;have az:0<G:=by rw [O];exact Nat.gcd_pos_of_pos_right _ HD.o
 have aw:len 1000000000 G<=33554432:=by rw [O];exact Nat.le_trans (vI (by omega) (Nat.gcd_le_right _ HD.o)) ag.o
 rw [<- O];have I:=ze ah;have af:=ze az;have ad:=ze aw;have aq:=ze (zy.below HA.o S);have ao:=ze (zy.below HB.o S);have j:=ze (HK.o.below S HK.o.lt);have ar:=ze (ext HW.o S);have K:=j.o.cell 0;have M:=j.o.cell 1;have J:=j.o.cell 2;have f0:=j.o.frozen 0;have f1:=j.o.frozen 1;have f2:=j.o.frozen 2;have lr:=j.o.lt;simp at K M J;clear O az aw ah S HA HB HW HK ax
 by_cases F:G=1
 . subst F
   obtain ⟨aA,rfl,Q,aC,aB⟩:=I.o.first (Zk (by omega) (by omega));rw [Q]
   have ai:=ze (show (vj neg n d).num.natAbs=n/\(vj neg n d).den=d/\decide ((vj neg n d).num<0)=neg by
    rw [ac.o,aa.o,ab.o, <- X.o,Nat.div_one,Nat.div_one,decide_eq_true L.o,Bool.and_true];exact ⟨rfl,rfl,rfl⟩)
   clear Q;go_wp2_with fail;have z:=yT (ng:=neg) (A:=A) (n:=(len 1000000000 n)) (c:=c) (B:=B) (m:=(len 1000000000 d)) (d:=c') j.o;have u:=z.cell 0;have y:=z.cell 1;have r:=z.cell 2;simp only [World.ref] at u y r;simp at u y r;refine bodyPost_ret (v:=.agg #[.bool neg,.slice A ((len 1000000000 n)) c,.slice B ((len 1000000000 d)) c']) (by simp [results,results86,go_sem,u,y,r]) rfl ?_;refine ⟨_,rfl,⟨_,_,_,_,_,_,_,rfl,?_,?_,?_⟩,yK (w:=w) (g:=w.heap.size) ar.o (Nat.le_refl _)⟩
   . exact ai.o.2.2.symm
   . rw [ai.o.1];exact yf aq.o j.o
   . rw [ai.o.2.1];exact yf ao.o j.o
 by_cases Q:len 1000000000 G=1
 rotate_left
 . have aE:((len 1000000000 G:Int) == 1)=false:=by rw [beq_eq_false_iff_ne];omega
   clear F Q;go_wp2_with fail;refine (Xj _ _ n G _ aq.o I.o af.o an.o ad.o).mono ?_;rintro e w2 ⟨q1,q2,rfl,l,_,D⟩;have al:=ze l;have am:=ze (zy.below ao.o D);have aj:=ze (zy.below I.o D);have Y:=ze (j.o.below D j.o.lt);have ak:=ze (ext ar.o D);clear l D K M J f0 f1 f2 lr;go_wp2_with fail;refine (Xj _ _ d G w2 am.o aj.o af.o ag.o ad.o).mono ?_;rintro e w3 ⟨q3,q4,rfl,N,_,E⟩;have l:=zy.below al.o E;obtain ⟨U,R,rfl⟩:=l.form;obtain ⟨V,T,rfl⟩:=N.form;have au :=ze l;have av:=ze N;have b:=ze (Y.o.below E Y.o.lt);have ap:=ze (ext ak.o E);have K:=b.o.cell 0;have M:=b.o.cell 1;have J:=b.o.cell 2;have f0:=b.o.frozen 0;have f1:=b.o.frozen 1;have f2:=b.o.frozen 2;have lr:=b.o.lt;simp at K M J;clear l N E;go_wp2_with fail;have z:=yT (ng:=neg) (A:=U) (n:=(len 1000000000 (n / G))) (c:=R) (B:=V) (m:=(len 1000000000 (d / G))) (d:=T) b.o;have u:=z.cell 0;have y:=z.cell 1;have r:=z.cell 2
   simp only [World.ref] at u y r;simp at u y r;refine bodyPost_ret (v:=.agg #[.bool neg,.slice U ((len 1000000000 (n / G))) R,.slice V ((len 1000000000 (d / G))) T]) (by simp [results,results86,go_sem,u,y,r]) rfl ?_;refine ⟨_,rfl,⟨_,_,_,_,_,_,_,rfl,?_,?_,?_⟩,yK (w:=w) (g:=w.heap.size) ap.o (Nat.le_refl _)⟩
   . rw [ab.o,decide_eq_true L.o,Bool.and_true]
   . rw [ac.o, <- X.o];exact yf au.o b.o
   . rw [aa.o, <- X.o];exact yf av.o b.o
 obtain ⟨aA,rfl,ay,aC,aB⟩:=I.o.first Q
 have aF:((G:Int) == 1)=false:=by rw [beq_eq_false_iff_ne];omega
 rw [ay] at I |-;clear F ay Q;go_wp2_with fail;refine (Xj _ _ n G _ aq.o I.o af.o an.o ad.o).mono ?_;rintro e w2 ⟨q1,q2,rfl,l,_,D⟩;have al:=ze l;have am:=ze (zy.below ao.o D);have aj:=ze (zy.below I.o D);have Y:=ze (j.o.below D j.o.lt);have ak:=ze (ext ar.o D);clear l D K M J f0 f1 f2 lr;go_wp2_with fail;refine (Xj _ _ d G w2 am.o aj.o af.o ag.o ad.o).mono ?_;rintro e w3 ⟨q3,q4,rfl,N,_,E⟩;have l:=zy.below al.o E;obtain ⟨U,R,rfl⟩:=l.form;obtain ⟨V,T,rfl⟩:=N.form;have au :=ze l;have av:=ze N;have b:=ze (Y.o.below E Y.o.lt);have ap:=ze (ext ak.o E);have K:=b.o.cell 0;have M:=b.o.cell 1;have J:=b.o.cell 2;have f0:=b.o.frozen 0;have f1:=b.o.frozen 1;have f2:=b.o.frozen 2;have lr:=b.o.lt;simp at K M J;clear l N E;go_wp2_with fail;have z:=yT (ng:=neg) (A:=U) (n:=(len 1000000000 (n / G))) (c:=R) (B:=V) (m:=(len 1000000000 (d / G))) (d:=T) b.o;have u:=z.cell 0;have y:=z.cell 1
 have r:=z.cell 2;simp only [World.ref] at u y r;simp at u y r;refine bodyPost_ret (v:=.agg #[.bool neg,.slice U ((len 1000000000 (n / G))) R,.slice V ((len 1000000000 (d / G))) T]) (by simp [results,results86,go_sem,u,y,r]) rfl ?_;refine ⟨_,rfl,⟨_,_,_,_,_,_,_,rfl,?_,?_,?_⟩,yK (w:=w) (g:=w.heap.size) ap.o (Nat.le_refl _)⟩
 . rw [ab.o,decide_eq_true L.o,Bool.and_true]
 . rw [ac.o, <- X.o];exact yf au.o b.o
 . rw [aa.o, <- X.o];exact yf av.o b.o
def NotI (v:Value):Prop:=∀ x,v≠ .int .i64 x
def zf4 (w:World) (b:Nat):Prop:=∀ p:Addr,p.block=b->∀ x,w.cell? p≠some (.int .i64 x)
theorem zs4 {w:World} {b:Nat} {cs:Array Value} {t:TypeId} {fr:Nat×Nat} (h:w.heap[b]?=some (.cells cs t fr)) (hn:∀ u∈cs,NotI u):zf4 w b:=by
 intro p j x e
 unfold World.cell? at e
 rw [j,h] at e
 simp only at e
 split at e
 . cases e
 exact hn _ (Array.mem_of_getElem? e) x rfl
theorem zo1 {cs:Array Value} (h:zn3 cs):∀ u∈cs,NotI u:=by
 intro u hu x e
 subst e
 obtain ⟨i,hi,e⟩:=Array.mem_iff_getElem.1 hu
 exact h i x (by rw [Array.getElem?_eq_getElem hi,e])
theorem Blk.noI64 {w:World} {g:Nat} {t:TypeId} {cs:Array Value} (h:Blk w g t cs) (hn:zn3 cs):zf4 w g:=zs4 h (zo1 hn)
section
variable {S:Nat->Prop} {w w' :World}
theorem Chg.siz {v:Value} {n:Nat} (h:Chg S w w') (hn:zy w v n) (hS:∀ b,S b->zf4 w b):zy w' v n:=by
 obtain ⟨A,c,ds,e,C,B,l,r,D⟩:=hn
 refine ⟨A,c,ds,e,C,B,⟨l.1,fun h0=>?_⟩,r,D⟩
 obtain ⟨F,z,hb,E⟩:=l.2 h0
 refine ⟨F,z,Nat.lt_of_lt_of_le hb h.size,fun j u hu=>?_⟩
 have m:=E j u hu
 have y:∃ d:Nat,u= .int .i64 (d:Int):=by
  unfold Yd at hu
  rw [List.getElem?_map] at hu
  obtain ⟨d,_,e⟩:=Option.map_eq_some_iff.1 hu
  exact ⟨d,e.symm⟩
 obtain ⟨d,rfl⟩:=y
 exact h.cell m (fun hs=>hS _ hs _ rfl _ m)
theorem Chg.ref {v:Value} {q:Rat} (h:Chg S w w') (hn:xf w v q) (hS:∀ b,S b->zf4 w b):xf w' v q:=by
 obtain ⟨ng,A,n,c,B,m,d,e,r,l,j⟩:=hn
 exact ⟨ng,A,n,c,B,m,d,e,r,h.siz l hS,h.siz j hS⟩
end
def zra (w:World) (g k:Nat) (q:Rat):Prop:=
 ∃ (ng:Bool) (A:Option Addr) (n c:Nat) (B:Option Addr) (m d:Nat),w.cell? ⟨g,k*3,none⟩=some (.bool ng)/\w.cell? ⟨g,k*3+1,none⟩=some (.slice A n c)/\w.cell? ⟨g,k*3+2,none⟩=some (.slice B m d)/\
  xf w (.agg #[.bool ng,.slice A n c,.slice B m d]) q
def za0 (w:World) (g L n:Nat) (f:Nat->Rat):Prop:=(∃ cs,Blk w g 64 cs/\cs.size=L*3/\zn3 cs)/\∀ k,k<n->zra w g k (f k)
section
variable {S:Nat->Prop} {w w' :World} {g L n:Nat} {f:Nat->Rat}
theorem zra.chg {k:Nat} {q:Rat} (h:zra w g k q) (hc:Chg S w w') (hg:¬ S g) (hS:∀ b,S b->zf4 w b):zra w' g k q:=by
 obtain ⟨ng,A,n,c,B,m,d,e,j,r,l⟩:=h
 exact ⟨ng,A,n,c,B,m,d,hc.cell e hg,hc.cell j hg,hc.cell r hg,hc.ref l hS⟩
theorem za0.lt (h:za0 w g L n f):g<w.heap.size:=by obtain ⟨⟨cs,h,_⟩,_⟩:=h;exact h.lt
theorem za0.chg (h:za0 w g L n f) (hc:Chg S w w') (hg:¬ S g) (hS:∀ b,S b->zf4 w b):za0 w' g L n f:=by
 obtain ⟨⟨cs,e,m,l⟩,j⟩:=h
 exact ⟨⟨cs,hc.blk e hg,m,l⟩,fun k hk=>(j k hk).chg hc hg hS⟩
theorem za0.below (h:za0 w g L n f) (hb:Below w.heap.size w w'):za0 w' g L n f:=h.chg (S:=fun _=>False) (Chg.of_below hb) (fun h=>h) (fun _ h=>h.elim)
end
section
variable {S:Nat->Prop} {w w' :World} {base n size:Nat} {e:TypeId} {v:Value} {xs:List Value}
end
section
variable {P:Program} (w:World)
end
end Go.Proofs.YthbmhkiphmcogaaGreatDoor
