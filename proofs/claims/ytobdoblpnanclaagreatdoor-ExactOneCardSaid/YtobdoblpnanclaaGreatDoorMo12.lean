/- Parts of the proof. -/
import Derived.IntWalk
import Derived.Test.YtobdoblpnanclaaGreatDoorMo11
set_option linter.all false
namespace Go.Proofs.YtobdoblpnanclaaGreatDoor
open Proofs.Tryz Go.RowKit Go.Deep
def zV (w:World) (v:Value) (q:Rat):Prop:=
 ∃ x A k c s y B k' c' t,v= .agg #[.int .i64 x,.slice A k c,.bool s,.int .i64 y,.slice B k' c',.bool t]/\zN w (.agg #[.int .i64 x,.slice A k c,.bool s]) q.num/\zN w (.agg #[.int .i64 y,.slice B k' c',.bool t]) (q.den:Int)
def zeb (w:World) (q:Rat) (e:Ending) (w' :World):Prop:=∃ v,e= .returned v/\zV w' v q/\Below w.heap.size w w'
theorem zV.below {w w' :World} {v:Value} {q:Rat} (h:zV w v q) (hb:Below w.heap.size w w'):zV w' v q:=by
 obtain ⟨x,A,k,c,s,y,B,k',c',t,b,e,j⟩:=h
 exact ⟨x,A,k,c,s,y,B,k',c',t,b,e.below hb,j.below hb⟩
def zps (w:World) (q:Rat) (wr:World):Prop:=
 ∃ x A k c s y B k' c' t zn zd,zN wr (.agg #[.int .i64 x,.slice A k c,.bool s]) zn/\zN wr (.agg #[.int .i64 y,.slice B k' c',.bool t]) zd/\
  Blk wr w.heap.size 58 #[.int .i64 x,.slice A k c,.bool s]/\Blk wr (w.heap.size+1) 58 #[.int .i64 y,.slice B k' c',.bool t]/\
  Blk wr (w.heap.size+1+1) 60 #[.int .i64 0,.slice none 0 0,.bool false,.int .i64 0,.slice none 0 0,.bool false]/\Below w.heap.size w wr/\0<zd/\Hid (Rat.divInt zn zd=q)/\Hid (len 4294967296 zn.natAbs<=33554432)/\Hid (len 4294967296 zd.natAbs<=33554432)
theorem zN.small {w:World} {x z:Int} {k c:Nat} {s:Bool} (h:zN w (.agg #[.int .i64 x,.slice none k c,.bool s]) z):k=0/\c=0/\z=x/\ -4611686018427387904<x/\x<4611686018427387904:=by
 obtain ⟨C,A,k',c',B,e,u,m,y⟩:=h.form
 injection e with e
 have b:=congrArg (fun a=>a.toList) e
 simp at b
 obtain ⟨rfl,⟨rfl,rfl,rfl⟩,rfl⟩:=b
 obtain ⟨r,j,l⟩:=y rfl
 exact ⟨r,j,l,u,m⟩
def EucR (x y:Nat) (w:World) (av bv:Value) (wr:World):Prop:=∃ a b nq:Nat,wr=w.drewN nq/\av= .int .u64 a/\bv= .int .u64 b/\a<4611686018427387904/\b<4611686018427387904/\Hid (Nat.gcd a b=Nat.gcd x y)
theorem za0 (z:Int) (m:Nat) (hm:0<m):(Rat.divInt z m).num=z.tdiv ((Nat.gcd z.natAbs m:Nat):Int)/\((Rat.divInt z m).den:Int)=(m:Int) / ((Nat.gcd z.natAbs m:Nat):Int):=by
 have e:(m:Int).gcd z=Nat.gcd z.natAbs m:=by show Nat.gcd _ _=_;rw [Int.natAbs_natCast,Nat.gcd_comm]
 have b:(m:Int).sign=1:=Int.sign_eq_one_of_pos (by omega)
 constructor
 . rw [Rat.num_divInt,e,b,Int.one_mul,Int.tdiv_eq_ediv_of_dvd]
   exact Int.ofNat_dvd_left.2 (Nat.gcd_dvd_left _ _)
 rw [Rat.den_divInt,if_neg (by omega),e,Int.natAbs_natCast]
 rfl
theorem zps.negs {w W:World} {z y x2 x3 x0 y0:Int} {A2 A3 A0 B0:Option Addr} {k2 c2 k3 c3 k0 c0 k0' c0' :Nat} {s2 s3 s0 t0:Bool} (hA:zN W (.agg #[.int .i64 x2,.slice A2 k2 c2,.bool s2]) (-z)) (hB:zN W (.agg #[.int .i64 x3,.slice A3 k3 c3,.bool s3]) (-y))
 (kA:Blk W w.heap.size 58 #[.int .i64 x0,.slice A0 k0 c0,.bool s0]) (kB:Blk W (w.heap.size+1) 58 #[.int .i64 y0,.slice B0 k0' c0',.bool t0])
 (kC:Blk W (w.heap.size+1+1) 60 #[.int .i64 0,.slice none 0 0,.bool false,.int .i64 0,.slice none 0 0,.bool false]) (hW:Below w.heap.size w W) (hy:y<0)
 (hlz:len 4294967296 z.natAbs<=33554432) (hly:len 4294967296 y.natAbs<=33554432):
 zps w (Rat.divInt z y) (World.num (World.num W w.heap.size x2 A2 k2 c2 s2) (w.heap.size+1) x3 A3 k3 c3 s3):=by
 have b:=xY (g' :=w.heap.size) (x:=x2) (A:=A2) (k:=k2) (c:=c2) (ng:=s2) kB (by omega)
 have j:=xY (g' :=w.heap.size) (x:=x2) (A:=A2) (k:=k2) (c:=c2) (ng:=s2) kC (by omega)
 have e:=yg (x:=x2) (A:=A2) (k:=k2) (c:=c2) (ng:=s2) kA
 exact ⟨_,_,_,_,_,_,_,_,_,_,_,_,zz (zz hA kA) b,zz (zz hB kA) b,xY e (by omega),yg b,xY j (by omega),
  zK (zK hW (uA)) (by omega),by omega,Rat.neg_divInt_neg z y,ze (by rw [Int.natAbs_neg];exact hlz),ze (by rw [Int.natAbs_neg];exact hly)⟩
abbrev World.rat (w:World) (g:Nat) (x:Int) (A:Option Addr) (k c:Nat) (s:Bool) (y:Int) (B:Option Addr) (k' c' :Nat) (t:Bool):World:=
 ((((((w.setCell ⟨g,0,none⟩ (.int .i64 x)).setCell ⟨g,1,none⟩ (.slice A k c)).setCell ⟨g,2,none⟩ (.bool s)).setCell ⟨g,3,none⟩ (.int .i64 y)).setCell ⟨g,4,none⟩ (.slice B k' c')).setCell ⟨g,5,none⟩ (.bool t))
theorem Yg (x:Int) (A:Option Addr) (k c:Nat) (s:Bool) (y:Int) (B:Option Addr) (k' c' :Nat) (t:Bool):vD #[.int .i64 x,.slice A k c,.bool s,.int .i64 y,.slice B k' c',.bool t]:=by
 intro i d h
 match i with
 | 0=>simp at h
 | 1=>simp at h
 | 2=>simp at h
 | 3=>simp at h
 | 4=>simp at h
 | 5=>simp at h
 | n+6=>simp at h
section
variable {W w:World} {g:Nat} {t' :TypeId} {x x0 y y0 z:Int} {A A0 B B0:Option Addr} {k c k' c' k0 c0 k1 c1:Nat} {s s0 t t0:Bool} {v:Value}
theorem yj (hk:Blk W g t' #[.int .i64 x0,.slice A0 k0 c0,.bool s0,.int .i64 y0,.slice B0 k1 c1,.bool t0]):
 Blk (World.rat W g x A k c s y B k' c' t) g t' #[.int .i64 x,.slice A k c,.bool s,.int .i64 y,.slice B k' c',.bool t]:=(((((hk.set_ 0 _).set_ 1 _).set_ 2 _).set_ 3 _).set_ 4 _).set_ 5 _
theorem yl (hv:zN W v z) (hk:Blk W g t' #[.int .i64 x0,.slice A0 k0 c0,.bool s0,.int .i64 y0,.slice B0 k1 c1,.bool t0]):zN (World.rat W g x A k c s y B k' c' t) v z:=by
 refine hv.stored hk (Yg _ _ _ _ _ _ _ _ _ _) ?_ (by simp [World.rat,World.setCell])
 intro p b
 simp only [World.rat]
 rw [World.cell?_setCell_other,World.cell?_setCell_other,World.cell?_setCell_other,World.cell?_setCell_other,World.cell?_setCell_other,World.cell?_setCell_other]
 all_goals (intro e;subst e;exact b rfl)
theorem ye (h:Below w.heap.size w W) (hg:w.heap.size<=g):Below w.heap.size w (World.rat W g x A k c s y B k' c' t):=
 (((((h.setCell hg _).setCell hg _).setCell hg _).setCell hg _).setCell hg _).setCell hg _
theorem VP {g' :Nat} {cs:Array Value} (hk:Blk W g t' cs) (hne:g≠g'):Blk (World.rat W g' x A k c s y B k' c' t) g t' cs:=
 (((((hk.far hne _).far hne _).far hne _).far hne _).far hne _).far hne _
end
theorem X5 {zn zd:Int} (h:0<zd) (hl:len 4294967296 zd.natAbs<=33554432):
 (Rat.divInt zn zd).num=zn.tdiv ((Nat.gcd zn.natAbs zd.natAbs:Nat):Int)/\((Rat.divInt zn zd).den:Int)=zd.tdiv ((Nat.gcd zn.natAbs zd.natAbs:Nat):Int)/\0<Nat.gcd zn.natAbs zd.natAbs/\len 4294967296 (Nat.gcd zn.natAbs zd.natAbs)<=33554432:=by
 obtain ⟨m,rfl⟩:=Int.eq_ofNat_of_zero_le (Int.le_of_lt h)
 have b:0<m:=by omega
 obtain ⟨e,j⟩:=za0 zn m b
 refine ⟨e,?_,Nat.gcd_pos_of_pos_right _ b,uC (Yk (by omega) (Nat.gcd_le_right _ b)) hl⟩
 rw [j,Int.tdiv_eq_ediv_of_nonneg (by omega)]
 rfl
theorem zvf {w1 w2 w3 w4 w5:World} {g:Nat} {t:TypeId} {cs:Array Value} (h:Blk w1 g t cs) (h1:Below w1.heap.size w1 w2) (h2:Below w2.heap.size w2 w3) (h3:Below w3.heap.size w3 w4) (h4:Below w4.heap.size w4 w5):Blk w5 g t cs:=
 h.below (ext (ext (ext h1 h2) h3) h4) h.lt
set_option maxRecDepth 100000 in
set_option maxHeartbeats 8000000 in
theorem Yd (va vb:Value) (z y:Int) (w:World) (ha:zN w va z) (hb:zN w vb y) (hy:y≠0) (hla:len 4294967296 z.natAbs<=33554432) (hlb:len 4294967296 y.natAbs<=33554432):
 Calls prog 39 #[va,vb] w (zeb w (Rat.divInt z y)):=by
 have bM :=ha
 have bJ :=hb
 obtain ⟨x1,A,k,c,s,rfl,h1,h2,hA⟩:=bM.form
 obtain ⟨y1,B,k',c',t,rfl,h3,h4,hB⟩:=bJ.form
 have aD:=ze hlb
 have am:=ze hla
 have hW:=ext (ext (zf w (.cells #[.int .i64 x1,.slice A k c,.bool s] 58)) (zf _ (.cells #[.int .i64 y1,.slice B k' c',.bool t] 58))) (zf _ (.cells #[.int .i64 0,.slice none 0 0,.bool false,.int .i64 0,.slice none 0 0,.bool false] 60))
 have kA:=((Blk.new w 58 #[.int .i64 x1,.slice A k c,.bool s]).alloc (.cells #[.int .i64 y1,.slice B k' c',.bool t] 58)).alloc (.cells #[.int .i64 0,.slice none 0 0,.bool false,.int .i64 0,.slice none 0 0,.bool false] 60)
 have V:=(Blk.new (w.alloc (.cells #[.int .i64 x1,.slice A k c,.bool s] 58)) 58 #[.int .i64 y1,.slice B k' c',.bool t]).alloc (.cells #[.int .i64 0,.slice none 0 0,.bool false,.int .i64 0,.slice none 0 0,.bool false] 60)
 have kC:=Blk.new ((w.alloc (.cells #[.int .i64 x1,.slice A k c,.bool s] 58)).alloc (.cells #[.int .i64 y1,.slice B k' c',.bool t] 58)) 60 #[.int .i64 0,.slice none 0 0,.bool false,.int .i64 0,.slice none 0 0,.bool false]
 simp only [World.size_alloc] at V kC
 have a7:=ze (ha.below hW)
 have aR:=ze (hb.below hW)
 obtain ⟨HW,aa,N,ab⟩:=hz4 hW kA V kC
 clear hla hlb hW kA V kC hA hB ha hb bM bJ h1 h2 h3 h4
 go_in
 go_upto_if 14 with (first | (go_at_call 76;refine (ZD _ y _ aR.o).mono ?_;rintro e w1 ⟨rfl,aO⟩))
 have kA:=aa.o.below aO aa.o.lt
 have V:=N.o.below aO N.o.lt
 have kC:=ab.o.below aO ab.o.lt
 have hA:=a7.o.below aO
 have hB:=aR.o.below aO
 have bx:=ext HW.o aO
 clear aa N ab a7 aR HW aO
 go_cut [] (fun wx=>zps w (Rat.divInt z y) wx)
 case first=>
  rcases (show y<0\/(¬ y<0/\0<y) by omega) with bl | ⟨bl,bH⟩
  . have hc:zZ y 0= -1:=by unfold zZ;rw [if_pos bl]
    rw [hc];obtain ⟨a0,Q,S,_⟩:=bp3 kA;obtain ⟨b0,b1,b2,_⟩:=bp3 V;have aa:=ze (kA.drewN 1);have N:=ze (V.drewN 1);have ab:=ze (kC.drewN 1);have a7:=ze (hA.below (yD w1 1));have aR:=ze (hB.below (yD w1 1));have bL:=ze (zo bx 1);clear kA V kC hA hB bx;go_wp2_with fail
    go_region_with (first
     | (go_at_call_of 74 (Value.agg #[.int .i64 x1,.slice A k c,.bool s]);refine (yF _ z _ (by first | exact a7.o | exact a7.o.below al)).mono ?_;rintro e w2 ⟨v,rfl,af,ak⟩;obtain ⟨x2,A2,k2,c2,s2,rfl,_,_,_⟩:=af.form;have ax:Blk w2 w.heap.size _ _:=(by first | exact aa.o.below ak aa.o.lt | exact aC.below ak aC.lt);have an:Blk w2 (w.heap.size+1) _ _:=(by first | exact N.o.below ak N.o.lt | exact aB.below ak aB.lt);have bE:Blk w2 (w.heap.size+1+1) _ _:=(by first | exact ab.o.below ak ab.o.lt | exact bq.below ak bq.lt);have bV:=ax.cell 0;have cs:=ax.frozen 0;have bU:=ax.cell 1;have co:=ax.frozen 1;have bY:=ax.cell 2;have cj:=ax.frozen 2;have bX:=an.cell 0;have ck:=an.frozen 0;have bP:=an.cell 1;have ci:=an.frozen 1;have bN:=an.cell 2;have ca:=an.frozen 2;simp at bV bU bY bX bP bN)
     | (go_at_call_of 74 (Value.agg #[.int .i64 y1,.slice B k' c',.bool t]);refine (yF _ y _ (by first | exact aR.o | exact aR.o.below ak)).mono ?_;rintro e w3 ⟨v,rfl,bB,al⟩;obtain ⟨x3,A3,k3,c3,s3,rfl,_,_,_⟩:=bB.form;have aC:Blk w3 w.heap.size _ _:=(by first | exact aa.o.below al aa.o.lt | exact ax.below al ax.lt);have aB:Blk w3 (w.heap.size+1) _ _:=(by first | exact N.o.below al N.o.lt | exact an.below al an.lt);have bq:Blk w3 (w.heap.size+1+1) _ _:=(by first | exact ab.o.below al ab.o.lt | exact bE.below al bE.lt);have bW:=aC.cell 0;have cn:=aC.frozen 0;have b3:=aC.cell 1;have cc:=aC.frozen 1;have a32:=aC.cell 2;have b7:=aC.frozen 2;have bT:=aB.cell 0;have ce:=aB.frozen 0;have bR:=aB.cell 1;have cd:=aB.frozen 1;have bZ:=aB.cell 2;have cp:=aB.frozen 2;simp at bW b3 a32 bT bR bZ))
    all_goals
     go_wp2;go_meet
     case rel=>
      first
       | exact zps.negs (af.below al) bB aC aB bq (ext (ext bL.o ak) al) bl am.o aD.o
       | exact zps.negs af (bB.below ak) ax an bE (ext (ext bL.o al) ak) bl am.o aD.o
  . have hc:zZ y 0=1:=by unfold zZ;rw [if_neg bl,if_pos bH]
    rw [hc];go_wp2;go_meet
    case rel=>exact ⟨_,_,_,_,_,_,_,_,_,_,_,_,hA,hB,kA,V,kC,bx,bH,rfl,am,aD⟩
 case rest=>
  obtain ⟨x2,A2,k2,c2,s2,y2,B2,k3,c3,t2,zn,zd,hA,hB,kA,V,kC,hW,aQ,HQ,aD,am⟩:=hcut
  clear hy
  have q1:=fun w=>zml w A2 k2 c2 0 0
  have q2:=fun w=>zml w B2 k3 c3 0 0
  obtain ⟨a0,Q,S,_⟩:=bp3 kA;obtain ⟨b0,b1,b2,_⟩:=bp3 V
  by_cases hf:A2=none/\B2=none
  rotate_left
  . rcases A2 with _ | ad
    . obtain ⟨bd,rfl⟩:∃ bd,B2=some bd:=by
       rcases B2 with _ | bd
       . exact absurd ⟨rfl,rfl⟩ hf
       . exact ⟨bd,rfl⟩
      clear hf;obtain ⟨HA,HB,aa,N,ab,HW⟩:=hz6 hA hB kA V kC hW;obtain ⟨P1,P2,aK,aH⟩:=X5 aQ am.o;rw [HQ.o] at P1 P2;obtain ⟨G,hG⟩:=uQ (Nat.gcd zn.natAbs zd.natAbs);rw [<- hG] at P1 P2 aK aH;obtain ⟨bo,aY,bF,bh,HG⟩:=hz5 P1 P2 aK aH hG;clear hA hB kA V kC hW aQ P1 P2 aK aH hG;go_wp2_with fail;refine (vV _ zn _ HA.o).mono ?_;rintro e w5 ⟨p,rfl,hp,M⟩;have ba:=N.o.below M N.o.lt;obtain ⟨b0,b1,b2,_⟩:=bp3 ba;go_wp2_with fail;refine (vV _ zd _ (HB.o.below M)).mono ?_;rintro e w6 ⟨p',rfl,aV,R⟩;have bi:=hp.below R;clear b0 b1 b2 a0 Q S;go_wp2_with fail;refine (zof p p' _ _ w6 bi aV aD.o am.o).mono ?_;rintro e w7 ⟨q,rfl,hq,Z⟩;rw [<- HG.o] at hq;go_wp2_with fail;refine (yb false q _ w7 hq).mono ?_;rintro e w8 ⟨v,rfl,hv,X⟩;obtain ⟨x',A',k4,c4,aI,rfl,_,_,_⟩:=hv.form;have bk:=ext (ext (ext (ext HW.o M) R) Z) X;have be:=(((HA.o.below M).below R).below Z).below X;have bm:=(((HB.o.below M).below R).below Z).below X
      have aG:=zvf aa.o M R Z X;have aP:=zvf N.o M R Z X;have aE:=zvf ab.o M R Z X;obtain ⟨a4,aS,bf⟩:=hz3 bk be bm;have a3:=ze (show zN w8 _ ((G:Nat):Int) from hv);obtain ⟨a0,Q,S,l1⟩:=bp3 aG;have l2:=aP.lt;have l3:=aE.lt;obtain ⟨aT,bp,bg⟩:=hz3 aG aP aE;clear M R Z X bk be bm hv hq hp aV bi HW HA HB aa N ab ba q1 q2 aG aP aE;go_wp2_with fail;have O:=zf w8 (.cells #[.int .i64 x',.slice A' k4 c4,.bool aI] 58);have aF:=aS.o.below O;have aM:=bf.o.below O;have ap:=a3.o.below O;have aq:=aT.o.below O l1;have ay:=bp.o.below O l2;have ar:=bg.o.below O l3;have ae:=Blk.new w8 58 #[.int .i64 x',.slice A' k4 c4,.bool aI];have aJ:=ext a4.o O;generalize bC:w8.heap.size=gg at ae |-;have bQ:w.heap.size+1+1<gg:=by omega
      generalize w8.alloc (.cells #[.int .i64 x',.slice A' k4 c4,.bool aI] 58)=w9 at aF aM ap aq ay ar ae aJ |-;clear O aS bf a3 aT bp bg a4 a0 Q S l1 l2 l3 bC;have aX:((G:Nat):Int)≠0:=by have:=bF.o;omega
      refine (zah _ _ zn G w9 aF ap aX aD.o bh.o).mono ?_;rintro e bD ⟨v1,v2,rfl,Y,af,T⟩;obtain ⟨u,r,C,j,l,rfl,_,_,_⟩:=Y.form;have L:=aq.below T aq.lt;have a0:=L.cell 0;have Q:=L.cell 1;have S:=L.cell 2;obtain ⟨f0,f1,f2⟩:=fp3 L;simp at a0 Q S;have aA:=xY (g' :=w.heap.size) (x:=u) (A:=r) (k:=C) (c:=j) (ng:=l) (ay.below T ay.lt) (by omega);have aU:=xY (g' :=w.heap.size) (x:=u) (A:=r) (k:=C) (c:=j) (ng:=l) (ar.below T ar.lt) (by omega);have a9:=xY (g' :=w.heap.size) (x:=u) (A:=r) (k:=C) (c:=j) (ng:=l) (ae.below T ae.lt) (by omega);have bn:=yg (x:=u) (A:=r) (k:=C) (c:=j) (ng:=l) L;have aj:=zz (x:=u) (A:=r) (k:=C) (c:=j) (ng:=l) Y L;have aZ:=zz (x:=u) (A:=r) (k:=C) (c:=j) (ng:=l) (aM.below T) L;have bj:=zz (x:=u) (A:=r) (k:=C) (c:=j) (ng:=l) (ap.below T) L;have a5:=zK (x:=u) (A:=r) (k:=C) (c:=j) (ng:=l) (ext aJ T) (uA);have d0:=aA.cell 0
      obtain ⟨_,d1,d2,_⟩:=bp3 aA;obtain ⟨g0,g1,g2,_⟩:=bp3 a9;simp at d0;obtain ⟨ag,ai,ah,ao,az,au,av⟩:=hz7 bn aA aU aj aZ bj a5;clear aq ay ar ae aF aM ap aJ T Y af L aA aU a9 bn aj aZ bj a5;simp only [World.num] at ag ai ah ao az au av d0 d1 d2 g0 g1 g2;go_wp2_with fail;generalize ((bD.setCell { block:=w.heap.size,off:=0 } (.int .i64 u)).setCell { block:=w.heap.size,off:=1 } (.slice r C j)).setCell { block:=w.heap.size,off:=2 } (.bool l)=w11 at ag ai ah ao az au av d0 d1 d2 g0 g1 g2 |-;clear a0 Q S f0 f1 f2;refine (zah _ _ zd G w11 az.o au.o aX am.o bh.o).mono ?_;rintro e b6 ⟨v1,v2,rfl,Y,af,ac⟩;obtain ⟨J,E,I,D,F,rfl,_,_,_⟩:=Y.form;have U:=ai.o.below ac ai.o.lt;have a0:=U.cell 0;have Q:=U.cell 1;have S:=U.cell 2;obtain ⟨f0,f1,f2⟩:=fp3 U;simp at a0 Q S
      have bb:=xY (g' :=w.heap.size+1) (x:=J) (A:=E) (k:=I) (c:=D) (ng:=F) (ag.o.below ac ag.o.lt) (by omega);have bc:=xY (g' :=w.heap.size+1) (x:=J) (A:=E) (k:=I) (c:=D) (ng:=F) (ah.o.below ac ah.o.lt) (by omega);have a6:=yg (x:=J) (A:=E) (k:=I) (c:=D) (ng:=F) U;have aW:=zz (x:=J) (A:=E) (k:=I) (c:=D) (ng:=F) Y U;have aj:=zz (x:=J) (A:=E) (k:=I) (c:=D) (ng:=F) (ao.o.below ac) U;have a8:=zK (g:=w.heap.size+1) (x:=J) (A:=E) (k:=I) (c:=D) (ng:=F) (ext av.o ac) (by omega);have bA :=ze aj;have bu :=ze aW;obtain ⟨bs,aL,aN,K⟩:=hz4 a8 bb a6 bc;clear ac Y af U bb bc a6 aj aW a8 ag ai ah ao az au av d0 d1 d2 g0 g1 g2;have d0:=aL.o.cell 0;have d1:=aL.o.cell 1;have d2:=aL.o.cell 2;have g0:=aN.o.cell 0;have g1:=aN.o.cell 1;have g2:=aN.o.cell 2;have h0:=K.o.cell 0;have h1:=K.o.cell 1;have h2:=K.o.cell 2;have h3:=K.o.cell 3;have h4:=K.o.cell 4
      have h5:=K.o.cell 5;obtain ⟨j0,j1,j2,j3,j4,j5⟩:=fq6 K;simp at d0 d1 d2 g0 g1 g2 h0 h1 h2 h3 h4 h5;go_wp2_with fail;have kR:=yj (x:=u) (A:=r) (k:=C) (c:=j) (s:=l) (y:=J) (B:=E) (k' :=I) (c' :=D) (t:=F) K.o;have bG:=yl (x:=u) (A:=r) (k:=C) (c:=j) (s:=l) (y:=J) (B:=E) (k' :=I) (c' :=D) (t:=F) bA.o K.o;have bw:=yl (x:=u) (A:=r) (k:=C) (c:=j) (s:=l) (y:=J) (B:=E) (k' :=I) (c' :=D) (t:=F) bu.o K.o;have bz:=ye (g:=w.heap.size+1+1) (x:=u) (A:=r) (k:=C) (c:=j) (s:=l) (y:=J) (B:=E) (k' :=I) (c' :=D) (t:=F) bs.o (by omega);have e0:=kR.cell 0;have e1:=kR.cell 1;have e2:=kR.cell 2;have e3:=kR.cell 3;have e4:=kR.cell 4;have e5:=kR.cell 5;simp only [World.rat,World.num] at e0 e1 e2 e3 e4 e5;simp at e0 e1 e2 e3 e4 e5
      refine bodyPost_ret (v:=.agg #[.int .i64 u,.slice r C j,.bool l,.int .i64 J,.slice E I D,.bool F]) (by simp [results,results39,go_sem,e0,e1,e2,e3,e4,e5]) rfl ?_;refine ⟨_,rfl,⟨_,_,_,_,_,_,_,_,_,_,rfl,?_,?_⟩,bz⟩
      . rw [bo.o];exact bG
      rw [aY.o];exact bw
    . clear hf
      obtain ⟨HA,HB,aa,N,ab,HW⟩:=hz6 hA hB kA V kC hW;obtain ⟨P1,P2,aK,aH⟩:=X5 aQ am.o;rw [HQ.o] at P1 P2;obtain ⟨G,hG⟩:=uQ (Nat.gcd zn.natAbs zd.natAbs);rw [<- hG] at P1 P2 aK aH;obtain ⟨bo,aY,bF,bh,HG⟩:=hz5 P1 P2 aK aH hG;clear hA hB kA V kC hW aQ P1 P2 aK aH hG;go_wp2_with fail;refine (vV _ zn _ HA.o).mono ?_;rintro e w5 ⟨p,rfl,hp,M⟩;have ba:=N.o.below M N.o.lt;obtain ⟨b0,b1,b2,_⟩:=bp3 ba;go_wp2_with fail;refine (vV _ zd _ (HB.o.below M)).mono ?_;rintro e w6 ⟨p',rfl,aV,R⟩;have bi:=hp.below R;clear b0 b1 b2 a0 Q S;go_wp2_with fail;refine (zof p p' _ _ w6 bi aV aD.o am.o).mono ?_;rintro e w7 ⟨q,rfl,hq,Z⟩;rw [<- HG.o] at hq;go_wp2_with fail;refine (yb false q _ w7 hq).mono ?_;rintro e w8 ⟨v,rfl,hv,X⟩;obtain ⟨x',A',k4,c4,aI,rfl,_,_,_⟩:=hv.form;have bk:=ext (ext (ext (ext HW.o M) R) Z) X;have be:=(((HA.o.below M).below R).below Z).below X;have bm:=(((HB.o.below M).below R).below Z).below X;have aG:=zvf aa.o M R Z X
      have aP:=zvf N.o M R Z X;have aE:=zvf ab.o M R Z X;obtain ⟨a4,aS,bf⟩:=hz3 bk be bm;have a3:=ze (show zN w8 _ ((G:Nat):Int) from hv);obtain ⟨a0,Q,S,l1⟩:=bp3 aG;have l2:=aP.lt;have l3:=aE.lt;obtain ⟨aT,bp,bg⟩:=hz3 aG aP aE;clear M R Z X bk be bm hv hq hp aV bi HW HA HB aa N ab ba q1 q2 aG aP aE;go_wp2_with fail;have O:=zf w8 (.cells #[.int .i64 x',.slice A' k4 c4,.bool aI] 58);have aF:=aS.o.below O;have aM:=bf.o.below O;have ap:=a3.o.below O;have aq:=aT.o.below O l1;have ay:=bp.o.below O l2;have ar:=bg.o.below O l3;have ae:=Blk.new w8 58 #[.int .i64 x',.slice A' k4 c4,.bool aI];have aJ:=ext a4.o O;generalize bC:w8.heap.size=gg at ae |-;have bQ:w.heap.size+1+1<gg:=by omega
      generalize w8.alloc (.cells #[.int .i64 x',.slice A' k4 c4,.bool aI] 58)=w9 at aF aM ap aq ay ar ae aJ |-;clear O aS bf a3 aT bp bg a4 a0 Q S l1 l2 l3 bC;have aX:((G:Nat):Int)≠0:=by have:=bF.o;omega
      refine (zah _ _ zn G w9 aF ap aX aD.o bh.o).mono ?_;rintro e bD ⟨v1,v2,rfl,Y,af,T⟩;obtain ⟨u,r,C,j,l,rfl,_,_,_⟩:=Y.form;have L:=aq.below T aq.lt;have a0:=L.cell 0;have Q:=L.cell 1;have S:=L.cell 2;obtain ⟨f0,f1,f2⟩:=fp3 L;simp at a0 Q S;have aA:=xY (g' :=w.heap.size) (x:=u) (A:=r) (k:=C) (c:=j) (ng:=l) (ay.below T ay.lt) (by omega);have aU:=xY (g' :=w.heap.size) (x:=u) (A:=r) (k:=C) (c:=j) (ng:=l) (ar.below T ar.lt) (by omega);have a9:=xY (g' :=w.heap.size) (x:=u) (A:=r) (k:=C) (c:=j) (ng:=l) (ae.below T ae.lt) (by omega);have bn:=yg (x:=u) (A:=r) (k:=C) (c:=j) (ng:=l) L;have aj:=zz (x:=u) (A:=r) (k:=C) (c:=j) (ng:=l) Y L;have aZ:=zz (x:=u) (A:=r) (k:=C) (c:=j) (ng:=l) (aM.below T) L;have bj:=zz (x:=u) (A:=r) (k:=C) (c:=j) (ng:=l) (ap.below T) L;have a5:=zK (x:=u) (A:=r) (k:=C) (c:=j) (ng:=l) (ext aJ T) (uA);have d0:=aA.cell 0
      obtain ⟨_,d1,d2,_⟩:=bp3 aA;obtain ⟨g0,g1,g2,_⟩:=bp3 a9;simp at d0;obtain ⟨ag,ai,ah,ao,az,au,av⟩:=hz7 bn aA aU aj aZ bj a5;clear aq ay ar ae aF aM ap aJ T Y af L aA aU a9 bn aj aZ bj a5;simp only [World.num] at ag ai ah ao az au av d0 d1 d2 g0 g1 g2;go_wp2_with fail;generalize ((bD.setCell { block:=w.heap.size,off:=0 } (.int .i64 u)).setCell { block:=w.heap.size,off:=1 } (.slice r C j)).setCell { block:=w.heap.size,off:=2 } (.bool l)=w11 at ag ai ah ao az au av d0 d1 d2 g0 g1 g2 |-;clear a0 Q S f0 f1 f2;refine (zah _ _ zd G w11 az.o au.o aX am.o bh.o).mono ?_;rintro e b6 ⟨v1,v2,rfl,Y,af,ac⟩;obtain ⟨J,E,I,D,F,rfl,_,_,_⟩:=Y.form;have U:=ai.o.below ac ai.o.lt;have a0:=U.cell 0;have Q:=U.cell 1;have S:=U.cell 2;obtain ⟨f0,f1,f2⟩:=fp3 U;simp at a0 Q S
      have bb:=xY (g' :=w.heap.size+1) (x:=J) (A:=E) (k:=I) (c:=D) (ng:=F) (ag.o.below ac ag.o.lt) (by omega);have bc:=xY (g' :=w.heap.size+1) (x:=J) (A:=E) (k:=I) (c:=D) (ng:=F) (ah.o.below ac ah.o.lt) (by omega);have a6:=yg (x:=J) (A:=E) (k:=I) (c:=D) (ng:=F) U;have aW:=zz (x:=J) (A:=E) (k:=I) (c:=D) (ng:=F) Y U;have aj:=zz (x:=J) (A:=E) (k:=I) (c:=D) (ng:=F) (ao.o.below ac) U;have a8:=zK (g:=w.heap.size+1) (x:=J) (A:=E) (k:=I) (c:=D) (ng:=F) (ext av.o ac) (by omega);have bA :=ze aj;have bu :=ze aW;obtain ⟨bs,aL,aN,K⟩:=hz4 a8 bb a6 bc;clear ac Y af U bb bc a6 aj aW a8 ag ai ah ao az au av d0 d1 d2 g0 g1 g2;have d0:=aL.o.cell 0;have d1:=aL.o.cell 1;have d2:=aL.o.cell 2;have g0:=aN.o.cell 0;have g1:=aN.o.cell 1;have g2:=aN.o.cell 2;have h0:=K.o.cell 0;have h1:=K.o.cell 1;have h2:=K.o.cell 2;have h3:=K.o.cell 3;have h4:=K.o.cell 4
      have h5:=K.o.cell 5;obtain ⟨j0,j1,j2,j3,j4,j5⟩:=fq6 K;simp at d0 d1 d2 g0 g1 g2 h0 h1 h2 h3 h4 h5;go_wp2_with fail;have kR:=yj (x:=u) (A:=r) (k:=C) (c:=j) (s:=l) (y:=J) (B:=E) (k' :=I) (c' :=D) (t:=F) K.o;have bG:=yl (x:=u) (A:=r) (k:=C) (c:=j) (s:=l) (y:=J) (B:=E) (k' :=I) (c' :=D) (t:=F) bA.o K.o;have bw:=yl (x:=u) (A:=r) (k:=C) (c:=j) (s:=l) (y:=J) (B:=E) (k' :=I) (c' :=D) (t:=F) bu.o K.o;have bz:=ye (g:=w.heap.size+1+1) (x:=u) (A:=r) (k:=C) (c:=j) (s:=l) (y:=J) (B:=E) (k' :=I) (c' :=D) (t:=F) bs.o (by omega);have e0:=kR.cell 0;have e1:=kR.cell 1;have e2:=kR.cell 2;have e3:=kR.cell 3;have e4:=kR.cell 4;have e5:=kR.cell 5;simp only [World.rat,World.num] at e0 e1 e2 e3 e4 e5;simp at e0 e1 e2 e3 e4 e5
      refine bodyPost_ret (v:=.agg #[.int .i64 u,.slice r C j,.bool l,.int .i64 J,.slice E I D,.bool F]) (by simp [results,results39,go_sem,e0,e1,e2,e3,e4,e5]) rfl ?_;refine ⟨_,rfl,⟨_,_,_,_,_,_,_,_,_,_,rfl,?_,?_⟩,bz⟩
      . rw [bo.o];exact bG
      rw [aY.o];exact bw
  obtain ⟨rfl,rfl⟩:=hf
  obtain ⟨rfl,rfl,rfl,h1,h2⟩:=hA.small;obtain ⟨rfl,rfl,rfl,h3,h4⟩:=hB.small;have bO:=fun w=>X7 zn (.slice none 0 0) s2 w h1 h2
  have HB:=ze (And.intro h1 (And.intro h2 h4));obtain ⟨m,rfl⟩:=Int.eq_ofNat_of_zero_le (Int.le_of_lt aQ);have bI:0<m:=by omega
  have b4:(m:Int)<4611686018427387904:=h4;have cm:IntKind.u64.wrap (m:Int)=(m:Int):=by rw [IntKind.wrap_u64];omega
  clear h1 h2 h3 h4 aQ;go_wp2_with fail
  go_region_held3 (fun w' =>w'.cell? ⟨w.heap.size,0,none⟩=some (.int .i64 zn)/\w'.cell? ⟨w.heap.size,1,none⟩=some (.slice none 0 0)/\w'.cell? ⟨w.heap.size,2,none⟩=some (.bool s2)/\w'.cell? ⟨w.heap.size+1,0,none⟩=some (.int .i64 m)/\
   w.heap.size<w'.heap.size/\w.heap.size+1<w'.heap.size/\Hid (Blk w' (w.heap.size+1+1) 60 #[.int .i64 0,.slice none 0 0,.bool false,.int .i64 0,.slice none 0 0,.bool false])/\Hid (Below w.heap.size w w'))
   (first
     | exact ⟨by go_keep,by go_keep,by go_keep,by go_keep,(kA.drewN 1).lt,(V.drewN 1).lt,ze (kC.drewN 1),ze (zo hW 1)⟩
     | go_keep
     | (go_split_ands;exact ⟨zi ‹_› ‹_› ‹_›,zi ‹_› ‹_› ‹_›,zi ‹_› ‹_› ‹_›,zi ‹_› ‹_› ‹_›,zY ‹_› ‹_›,zY ‹_› ‹_›,Zj ‹_› ‹_›,zp ‹_› ‹_›⟩))
   (first
     | (refine (bO _).mono ?_;rintro e w4 ⟨rfl,b5⟩))
  go_split_ands;have aw:=zW (by assumption:Hid (Blk w4 (w.heap.size+1+1) _ _));have bS:=zW (by assumption:Hid (Below w.heap.size w w4));have c0:=aw.cell 0;have c1:=aw.cell 1;have c2:=aw.cell 2;have c3:=aw.cell 3;have c4:=aw.cell 4;have j:=aw.cell 5;obtain ⟨f0,f1,f2,f3,f4,f5⟩:=fp6 aw;simp at c0 c1 c2 c3 c4 j;clear kA V kC hW b5 hA hB;go_wp2
  go_loopw [5,6] (EucR zn.natAbs m w4) (fun _ bv _=>(intOf bv).toNat)
  case atStart=>exact ⟨zn.natAbs,m,0,rfl,rfl,rfl,by have:=HB.o;omega,by omega,rfl⟩
  case round=>
   obtain ⟨a,b,nq,rfl,rfl,rfl,ha,hb,HG⟩:=hrel;have cg:=aw.drewN nq
   by_cases br:b=0
   . subst br
     have hg:a=Nat.gcd zn.natAbs m:=by have:=HG.o;rwa [Nat.gcd_zero_right] at this
     have cq:0<a:=by rw [hg];exact Nat.gcd_pos_of_pos_right _ bI
     obtain ⟨P1,P2⟩:=za0 zn m bI;rw [<- hg] at P1 P2;rw [HQ.o] at P1 P2;have bo:=ze P1;have aY:=ze P2;clear P1 P2 hg HG;obtain ⟨t1,t2⟩:=zdi (y:=(a:Int)) HB.o.1 HB.o.2.1;have t3:0<=(m:Int) / (a:Int):=Int.ediv_nonneg (by omega) (by omega);have t4:(m:Int) / (a:Int)<4611686018427387904:=by have:=Int.ediv_le_self (a:=(m:Int)) (a:Int) (by omega);omega
     have cf:((a:Int) == 0)=false:=uD (by omega);have ch :¬ (a:Int)=0:=by omega
     have cb:¬ a=0:=by omega
     have ct:¬ w.heap.size=w.heap.size+1+1:=by omega
     have cr:¬ w.heap.size+1+1=w.heap.size:=by omega
     have w1:IntKind.i64.wrap (a:Int)=(a:Int):=IntWalk.i64_in _ (by omega);have w2:IntKind.i64.wrap (zn.tdiv a)=zn.tdiv a:=IntWalk.i64_in _ (by omega);have w3:IntKind.i64.wrap ((m:Int) / a)=(m:Int) / a:=IntWalk.i64_in _ (by omega);go_wp2_with fail
     go_region_held3 (fun w' =>w'.cell? ⟨w.heap.size,0,none⟩=some (.int .i64 zn)/\w'.cell? ⟨w.heap.size+1,0,none⟩=some (.int .i64 m)) (go_keep) (fail)
     go_wp2;have kD:=((((((aw.drewN (nq+1)).set_ 0 (.int .i64 (zn.tdiv a))).set_ 1 (.slice none 0 0)).set_ 2 (.bool false)).set_ 3 (.int .i64 ((m:Int) / a))).set_ 4 (.slice none 0 0)).set_ 5 (.bool false);obtain ⟨d0,d1,d2,d3,d4,d5,_⟩:=bp6 kD;refine bodyPost_ret (v:=.agg #[.int .i64 (zn.tdiv a),.slice none 0 0,.bool false,.int .i64 ((m:Int) / a),.slice none 0 0,.bool false]) (by simp [results,results39,go_sem,d0,d1,d2,d3,d4,d5]) rfl ?_;refine ⟨_,rfl,⟨_,_,_,_,_,_,_,_,_,_,rfl,.inl ⟨_,_,rfl,t1,t2,bo.o⟩,.inl ⟨_,_,rfl,by omega,t4,aY.o⟩⟩,?_⟩;exact ((((((zo bS (nq+1)).setCell (by simp;omega) _).setCell (by simp;omega) _).setCell (by simp;omega) _).setCell (by simp;omega) _).setCell (by simp;omega) _).setCell (by simp;omega) _
   have b9:=ze ha
   have bK:=ze hb;clear ha hb HB b4;have cl:((b:Int) == 0)=false:=uD (by omega);have b8 :¬ (b:Int)=0:=by omega
   go_wp2
   go_quiet (fail)
   go_wp2;go_roundw
   case rel=>
    refine ⟨b,a % b,_,World.drewN_drewN _ _ _,rfl,?_,bK.o,?_,?_⟩
    . go_num
    . have:=Nat.mod_lt a (Nat.pos_of_ne_zero br);have:=bK.o;omega
    . show _=_
      rw [Nat.gcd_comm, <- Nat.gcd_rec,Nat.gcd_comm];exact HG.o
   case measure=>
    have:=Nat.mod_lt a (Nat.pos_of_ne_zero br)
    simp [intOf]<;>omega
end Go.Proofs.YtobdoblpnanclaaGreatDoor
