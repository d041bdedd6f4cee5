/- Parts of the proof. -/
import Derived.IntWalk
import Derived.Test.YtnjljgidphemdaaGreatDoorMv10
set_option linter.all false
set_option maxRecDepth 100000
set_option maxHeartbeats 32000000
namespace Go.Proofs.YtnjljgidphemdaaGreatDoor
open Proofs.Tryz Go.RowKit Go.Deep
def yk (w:World) (v:Value) (q:Rat):Prop:=
 ∃ x A k c s y B k' c' t,v= .agg #[.int .i64 x,.slice A k c,.bool s,.int .i64 y,.slice B k' c',.bool t]/\zY w (.agg #[.int .i64 x,.slice A k c,.bool s]) q.num/\zY w (.agg #[.int .i64 y,.slice B k' c',.bool t]) (q.den:Int)
def zhx (w:World) (q:Rat) (e:Ending) (w' :World):Prop:=∃ v,e= .returned v/\yk w' v q/\Below w.heap.size w w'
theorem yk.below {w w' :World} {v:Value} {q:Rat} (h:yk w v q) (hb:Below w.heap.size w w'):yk w' v q:=by
 obtain ⟨x,A,k,c,s,y,B,k',c',t,b,e,j⟩:=h
 exact ⟨x,A,k,c,s,y,B,k',c',t,b,e.below hb,j.below hb⟩
def zr4 (w:World) (q:Rat) (wr:World):Prop:=
 ∃ x A k c s y B k' c' t zn zd,zY wr (.agg #[.int .i64 x,.slice A k c,.bool s]) zn/\zY wr (.agg #[.int .i64 y,.slice B k' c',.bool t]) zd/\
  Blk wr w.heap.size 68 #[.int .i64 x,.slice A k c,.bool s]/\Blk wr (w.heap.size+1) 68 #[.int .i64 y,.slice B k' c',.bool t]/\
  Blk wr (w.heap.size+1+1) 70 #[.int .i64 0,.slice none 0 0,.bool false,.int .i64 0,.slice none 0 0,.bool false]/\Below w.heap.size w wr/\0<zd/\Hid (Rat.divInt zn zd=q)/\Hid (len 4294967296 zn.natAbs<=33554432)/\Hid (len 4294967296 zd.natAbs<=33554432)
theorem zY.small {w:World} {x z:Int} {k c:Nat} {s:Bool} (h:zY w (.agg #[.int .i64 x,.slice none k c,.bool s]) z):k=0/\c=0/\z=x/\ -4611686018427387904<x/\x<4611686018427387904:=by
 obtain ⟨C,A,k',c',B,e,u,m,y⟩:=h.form
 injection e with e
 have b:=congrArg (fun a=>a.toList) e
 simp at b
 obtain ⟨rfl,⟨rfl,rfl,rfl⟩,rfl⟩:=b
 obtain ⟨r,j,l⟩:=y rfl
 exact ⟨r,j,l,u,m⟩
def EucR (x y:Nat) (w:World) (av bv:Value) (wr:World):Prop:=∃ a b nq:Nat,wr=w.drewN nq/\av= .int .u64 a/\bv= .int .u64 b/\a<4611686018427387904/\b<4611686018427387904/\Hid (Nat.gcd a b=Nat.gcd x y)
theorem zcb (z:Int) (m:Nat) (hm:0<m):(Rat.divInt z m).num=z.tdiv ((Nat.gcd z.natAbs m:Nat):Int)/\((Rat.divInt z m).den:Int)=(m:Int) / ((Nat.gcd z.natAbs m:Nat):Int):=by
 have e:(m:Int).gcd z=Nat.gcd z.natAbs m:=by show Nat.gcd _ _=_;rw [Int.natAbs_natCast,Nat.gcd_comm]
 have b:(m:Int).sign=1:=Int.sign_eq_one_of_pos (by omega)
 constructor
 . rw [Rat.num_divInt,e,b,Int.one_mul,Int.tdiv_eq_ediv_of_dvd]
   exact Int.ofNat_dvd_left.2 (Nat.gcd_dvd_left _ _)
 rw [Rat.den_divInt,if_neg (by omega),e,Int.natAbs_natCast]
 rfl
theorem zr4.negs {w W:World} {z y x2 x3 x0 y0:Int} {A2 A3 A0 B0:Option Addr} {k2 c2 k3 c3 k0 c0 k0' c0' :Nat} {s2 s3 s0 t0:Bool} (hA:zY W (.agg #[.int .i64 x2,.slice A2 k2 c2,.bool s2]) (-z)) (hB:zY W (.agg #[.int .i64 x3,.slice A3 k3 c3,.bool s3]) (-y))
 (kA:Blk W w.heap.size 68 #[.int .i64 x0,.slice A0 k0 c0,.bool s0]) (kB:Blk W (w.heap.size+1) 68 #[.int .i64 y0,.slice B0 k0' c0',.bool t0])
 (kC:Blk W (w.heap.size+1+1) 70 #[.int .i64 0,.slice none 0 0,.bool false,.int .i64 0,.slice none 0 0,.bool false]) (hW:Below w.heap.size w W) (hy:y<0)
 (hlz:len 4294967296 z.natAbs<=33554432) (hly:len 4294967296 y.natAbs<=33554432):
 zr4 w (Rat.divInt z y) (World.num (World.num W w.heap.size x2 A2 k2 c2 s2) (w.heap.size+1) x3 A3 k3 c3 s3):=by
 have b:=vP (g' :=w.heap.size) (x:=x2) (A:=A2) (k:=k2) (c:=c2) (ng:=s2) kB (by omega)
 have j:=vP (g' :=w.heap.size) (x:=x2) (A:=A2) (k:=k2) (c:=c2) (ng:=s2) kC (by omega)
 have e:=yp (x:=x2) (A:=A2) (k:=k2) (c:=c2) (ng:=s2) kA
 exact ⟨_,_,_,_,_,_,_,_,_,_,_,_,zB (zB hA kA) b,zB (zB hB kA) b,vP e (by omega),yp b,vP j (by omega),
  zT (zT hW (uA)) (by omega),by omega,Rat.neg_divInt_neg z y,ze (by rw [Int.natAbs_neg];exact hlz),ze (by rw [Int.natAbs_neg];exact hly)⟩
abbrev World.rat (w:World) (g:Nat) (x:Int) (A:Option Addr) (k c:Nat) (s:Bool) (y:Int) (B:Option Addr) (k' c' :Nat) (t:Bool):World:=
 ((((((w.setCell ⟨g,0,none⟩ (.int .i64 x)).setCell ⟨g,1,none⟩ (.slice A k c)).setCell ⟨g,2,none⟩ (.bool s)).setCell ⟨g,3,none⟩ (.int .i64 y)).setCell ⟨g,4,none⟩ (.slice B k' c')).setCell ⟨g,5,none⟩ (.bool t))
theorem X6 (x:Int) (A:Option Addr) (k c:Nat) (s:Bool) (y:Int) (B:Option Addr) (k' c' :Nat) (t:Bool):Zi #[.int .i64 x,.slice A k c,.bool s,.int .i64 y,.slice B k' c',.bool t]:=by
 intro i d h
 match i with
 | 0=>simp at h
 | 1=>simp at h
 | 2=>simp at h
 | 3=>simp at h
 | 4=>simp at h
 | 5=>simp at h
 | n+6=>simp at h
section
variable {W w:World} {g:Nat} {t' :TypeId} {x x0 y y0 z:Int} {A A0 B B0:Option Addr} {k c k' c' k0 c0 k1 c1:Nat} {s s0 t t0:Bool} {v:Value}
theorem yz (hk:Blk W g t' #[.int .i64 x0,.slice A0 k0 c0,.bool s0,.int .i64 y0,.slice B0 k1 c1,.bool t0]):
 Blk (World.rat W g x A k c s y B k' c' t) g t' #[.int .i64 x,.slice A k c,.bool s,.int .i64 y,.slice B k' c',.bool t]:=(((((hk.set_ 0 _).set_ 1 _).set_ 2 _).set_ 3 _).set_ 4 _).set_ 5 _
theorem yW (hv:zY W v z) (hk:Blk W g t' #[.int .i64 x0,.slice A0 k0 c0,.bool s0,.int .i64 y0,.slice B0 k1 c1,.bool t0]):zY (World.rat W g x A k c s y B k' c' t) v z:=by
 refine hv.stored hk (X6 _ _ _ _ _ _ _ _ _ _) ?_ (by simp [World.rat,World.setCell])
 intro p b
 simp only [World.rat]
 rw [World.cell?_setCell_other,World.cell?_setCell_other,World.cell?_setCell_other,World.cell?_setCell_other,World.cell?_setCell_other,World.cell?_setCell_other]
 all_goals (intro e;subst e;exact b rfl)
theorem yu (h:Below w.heap.size w W) (hg:w.heap.size<=g):Below w.heap.size w (World.rat W g x A k c s y B k' c' t):=
 (((((h.setCell hg _).setCell hg _).setCell hg _).setCell hg _).setCell hg _).setCell hg _
theorem zbf {g' :Nat} {cs:Array Value} (hk:Blk W g t' cs) (hne:g≠g'):Blk (World.rat W g' x A k c s y B k' c' t) g t' cs:=
 (((((hk.far hne _).far hne _).far hne _).far hne _).far hne _).far hne _
end
theorem Vv {zn zd:Int} (h:0<zd) (hl:len 4294967296 zd.natAbs<=33554432):
 (Rat.divInt zn zd).num=zn.tdiv ((Nat.gcd zn.natAbs zd.natAbs:Nat):Int)/\((Rat.divInt zn zd).den:Int)=zd.tdiv ((Nat.gcd zn.natAbs zd.natAbs:Nat):Int)/\0<Nat.gcd zn.natAbs zd.natAbs/\len 4294967296 (Nat.gcd zn.natAbs zd.natAbs)<=33554432:=by
 obtain ⟨m,rfl⟩:=Int.eq_ofNat_of_zero_le (Int.le_of_lt h)
 have b:0<m:=by omega
 obtain ⟨e,j⟩:=zcb zn m b
 refine ⟨e,?_,Nat.gcd_pos_of_pos_right _ b,uC (vI (by omega) (Nat.gcd_le_right _ b)) hl⟩
 rw [j,Int.tdiv_eq_ediv_of_nonneg (by omega)]
 rfl
theorem zxc {w1 w2 w3 w4 w5:World} {g:Nat} {t:TypeId} {cs:Array Value} (h:Blk w1 g t cs) (h1:Below w1.heap.size w1 w2) (h2:Below w2.heap.size w2 w3) (h3:Below w3.heap.size w3 w4) (h4:Below w4.heap.size w4 w5):Blk w5 g t cs:=
 h.below (ext (ext (ext h1 h2) h3) h4) h.lt
theorem YE (va vb:Value) (z y:Int) (w:World) (ha:zY w va z) (hb:zY w vb y) (hy:y≠0) (hla:len 4294967296 z.natAbs<=33554432) (hlb:len 4294967296 y.natAbs<=33554432):
 Calls prog 63 #[va,vb] w (zhx w (Rat.divInt z y)):=by
 have bN :=ha
 have bK :=hb
 obtain ⟨x1,A,k,c,s,rfl,h1,h2,hA⟩:=bN.form
 obtain ⟨y1,B,k',c',t,rfl,h3,h4,hB⟩:=bK.form
 have aE:=ze hlb
 have an:=ze hla
 have hW:=ext (ext (zf w (.cells #[.int .i64 x1,.slice A k c,.bool s] 68)) (zf _ (.cells #[.int .i64 y1,.slice B k' c',.bool t] 68))) (zf _ (.cells #[.int .i64 0,.slice none 0 0,.bool false,.int .i64 0,.slice none 0 0,.bool false] 70))
 have kA:=((Blk.new w 68 #[.int .i64 x1,.slice A k c,.bool s]).alloc (.cells #[.int .i64 y1,.slice B k' c',.bool t] 68)).alloc (.cells #[.int .i64 0,.slice none 0 0,.bool false,.int .i64 0,.slice none 0 0,.bool false] 70)
 have V:=(Blk.new (w.alloc (.cells #[.int .i64 x1,.slice A k c,.bool s] 68)) 68 #[.int .i64 y1,.slice B k' c',.bool t]).alloc (.cells #[.int .i64 0,.slice none 0 0,.bool false,.int .i64 0,.slice none 0 0,.bool false] 70)
 have kC:=Blk.new ((w.alloc (.cells #[.int .i64 x1,.slice A k c,.bool s] 68)).alloc (.cells #[.int .i64 y1,.slice B k' c',.bool t] 68)) 70 #[.int .i64 0,.slice none 0 0,.bool false,.int .i64 0,.slice none 0 0,.bool false]
 simp only [World.size_alloc] at V kC
 have a8:=ze (ha.below hW)
 have aS:=ze (hb.below hW)
 obtain ⟨HW,ab,N,ac⟩:=hz4 hW kA V kC
 clear hla hlb hW kA V kC hA hB ha hb bN bK h1 h2 h3 h4
 go_in
 go_upto_if 14 with (first | (go_at_call 98;refine (X9 _ y _ aS.o).mono ?_;rintro e w1 ⟨rfl,aP⟩))
 have kA:=ab.o.below aP ab.o.lt
 have V:=N.o.below aP N.o.lt
 have kC:=ac.o.below aP ac.o.lt
 have hA:=a8.o.below aP
 have hB:=aS.o.below aP
 have bz:=ext HW.o aP
 clear ab N ac a8 aS HW aP
 go_cut [] (fun wx=>zr4 w (Rat.divInt z y) wx)
 case first=>
  rcases (show y<0\/(¬ y<0/\0<y) by omega) with bm | ⟨bm,bI⟩
  . have hc:zO y 0= -1:=by unfold zO;rw [if_pos bm]
    rw [hc];obtain ⟨a0,Q,S,_⟩:=bp3 kA;obtain ⟨b0,b1,b2,_⟩:=bp3 V;have ab:=ze (kA.drewN 1);have N:=ze (V.drewN 1);have ac:=ze (kC.drewN 1);have a8:=ze (hA.below (zC w1 1));have aS:=ze (hB.below (zC w1 1));have bM:=ze (zk bz 1);clear kA V kC hA hB bz;go_wp2_with fail
    go_region_with (first
     | (go_at_call_of 114 (Value.agg #[.int .i64 x1,.slice A k c,.bool s]);refine (xj _ z _ (by first | exact a8.o | exact a8.o.below am)).mono ?_;rintro e w2 ⟨v,rfl,ag,al⟩;obtain ⟨x2,A2,k2,c2,s2,rfl,_,_,_⟩:=ag.form;have ay:Blk w2 w.heap.size _ _:=(by first | exact ab.o.below al ab.o.lt | exact aD.below al aD.lt);have ao:Blk w2 (w.heap.size+1) _ _:=(by first | exact N.o.below al N.o.lt | exact aC.below al aC.lt);have bF:Blk w2 (w.heap.size+1+1) _ _:=(by first | exact ac.o.below al ac.o.lt | exact br.below al br.lt);have bW:=ay.cell 0;have ct:=ay.frozen 0;have bV:=ay.cell 1;have cp:=ay.frozen 1;have bZ:=ay.cell 2;have ck:=ay.frozen 2;have bY:=ao.cell 0;have cl:=ao.frozen 0;have bQ:=ao.cell 1;have cj:=ao.frozen 1;have bO:=ao.cell 2;have cb:=ao.frozen 2;simp at bW bV bZ bY bQ bO)
     | (go_at_call_of 114 (Value.agg #[.int .i64 y1,.slice B k' c',.bool t]);refine (xj _ y _ (by first | exact aS.o | exact aS.o.below al)).mono ?_;rintro e w3 ⟨v,rfl,bC,am⟩;obtain ⟨x3,A3,k3,c3,s3,rfl,_,_,_⟩:=bC.form;have aD:Blk w3 w.heap.size _ _:=(by first | exact ab.o.below am ab.o.lt | exact ay.below am ay.lt);have aC:Blk w3 (w.heap.size+1) _ _:=(by first | exact N.o.below am N.o.lt | exact ao.below am ao.lt);have br:Blk w3 (w.heap.size+1+1) _ _:=(by first | exact ac.o.below am ac.o.lt | exact bF.below am bF.lt);have bX:=aD.cell 0;have co:=aD.frozen 0;have b4:=aD.cell 1;have cd:=aD.frozen 1;have a32:=aD.cell 2;have b8:=aD.frozen 2;have bU:=aC.cell 0;have cf:=aC.frozen 0;have bS:=aC.cell 1;have ce:=aC.frozen 1;have b3:=aC.cell 2;have cq:=aC.frozen 2;simp at bX b4 a32 bU bS b3))
    all_goals
     go_wp2;go_meet
     case rel=>
      first
       | exact zr4.negs (ag.below am) bC aD aC br (ext (ext bM.o al) am) bm an.o aE.o
       | exact zr4.negs ag (bC.below al) ay ao bF (ext (ext bM.o am) al) bm an.o aE.o
  . have hc:zO y 0=1:=by unfold zO;rw [if_neg bm,if_pos bI]
    rw [hc];go_wp2;go_meet
    case rel=>exact ⟨_,_,_,_,_,_,_,_,_,_,_,_,hA,hB,kA,V,kC,bz,bI,rfl,an,aE⟩
 case rest=>
  obtain ⟨x2,A2,k2,c2,s2,y2,B2,k3,c3,t2,zn,zd,hA,hB,kA,V,kC,hW,aR,HQ,aE,an⟩:=hcut
  clear hy
  have q1:=fun w=>zo1 w A2 k2 c2 0 0
  have q2:=fun w=>zo1 w B2 k3 c3 0 0
  obtain ⟨a0,Q,S,_⟩:=bp3 kA;obtain ⟨b0,b1,b2,_⟩:=bp3 V
  by_cases hf:A2=none/\B2=none
  rotate_left
  . rcases A2 with _ | ad
    . obtain ⟨bd,rfl⟩:∃ bd,B2=some bd:=by
       rcases B2 with _ | bd
       . exact absurd ⟨rfl,rfl⟩ hf
       . exact ⟨bd,rfl⟩
      clear hf;obtain ⟨HA,HB,ab,N,ac,HW⟩:=hz6 hA hB kA V kC hW;obtain ⟨P1,P2,aL,aI⟩:=Vv aR an.o;rw [HQ.o] at P1 P2;obtain ⟨G,hG⟩:=uQ (Nat.gcd zn.natAbs zd.natAbs);rw [<- hG] at P1 P2 aL aI;obtain ⟨bp,aZ,bG,bi,HG⟩:=hz5 P1 P2 aL aI hG;clear hA hB kA V kC hW aR P1 P2 aL aI hG;go_wp2_with fail;refine (Z2 _ zn _ HA.o).mono ?_;rintro e w5 ⟨p,rfl,hp,M⟩;have bb:=N.o.below M N.o.lt;obtain ⟨b0,b1,b2,_⟩:=bp3 bb;go_wp2_with fail;refine (Z2 _ zd _ (HB.o.below M)).mono ?_;rintro e w6 ⟨p',rfl,aW,R⟩;have bj:=hp.below R;clear b0 b1 b2 a0 Q S;go_wp2_with fail;refine (zqo p p' _ _ w6 bj aW aE.o an.o).mono ?_;rintro e w7 ⟨q,rfl,hq,aa⟩;rw [<- HG.o] at hq;go_wp2_with fail;refine (yl false q _ w7 hq).mono ?_;rintro e w8 ⟨v,rfl,hv,Y⟩;obtain ⟨x',A',k4,c4,aJ,rfl,_,_,_⟩:=hv.form;have bl:=ext (ext (ext (ext HW.o M) R) aa) Y;have bf:=(((HA.o.below M).below R).below aa).below Y;have bn:=(((HB.o.below M).below R).below aa).below Y
      have aH:=zxc ab.o M R aa Y;have aQ:=zxc N.o M R aa Y;have aF:=zxc ac.o M R aa Y;obtain ⟨a5,aT,bg⟩:=hz3 bl bf bn;have a4:=ze (show zY w8 _ ((G:Nat):Int) from hv);obtain ⟨a0,Q,S,l1⟩:=bp3 aH;have l2:=aQ.lt;have l3:=aF.lt;obtain ⟨aU,bq,bh⟩:=hz3 aH aQ aF;clear M R aa Y bl bf bn hv hq hp aW bj HW HA HB ab N ac bb q1 q2 aH aQ aF;go_wp2_with fail;have O:=zf w8 (.cells #[.int .i64 x',.slice A' k4 c4,.bool aJ] 68);have aG:=aT.o.below O;have aN:=bg.o.below O;have aq:=a4.o.below O;have ar:=aU.o.below O l1;have az:=bq.o.below O l2;have au:=bh.o.below O l3;have af:=Blk.new w8 68 #[.int .i64 x',.slice A' k4 c4,.bool aJ];have aK:=ext a5.o O;generalize bD:w8.heap.size=gg at af |-;have bR:w.heap.size+1+1<gg:=by omega
      generalize w8.alloc (.cells #[.int .i64 x',.slice A' k4 c4,.bool aJ] 68)=w9 at aG aN aq ar az au af aK |-;clear O aT bg a4 aU bq bh a5 a0 Q S l1 l2 l3 bD;have aY:((G:Nat):Int)≠0:=by have:=bG.o;omega
      refine (zbv _ _ zn G w9 aG aq aY aE.o bi.o).mono ?_;rintro e bE ⟨v1,v2,rfl,Z,ag,T⟩;obtain ⟨u,r,C,j,l,rfl,_,_,_⟩:=Z.form;have L:=ar.below T ar.lt;have a0:=L.cell 0;have Q:=L.cell 1;have S:=L.cell 2;obtain ⟨f0,f1,f2⟩:=fp3 L;simp at a0 Q S;have aB:=vP (g' :=w.heap.size) (x:=u) (A:=r) (k:=C) (c:=j) (ng:=l) (az.below T az.lt) (by omega);have aV:=vP (g' :=w.heap.size) (x:=u) (A:=r) (k:=C) (c:=j) (ng:=l) (au.below T au.lt) (by omega);have ba:=vP (g' :=w.heap.size) (x:=u) (A:=r) (k:=C) (c:=j) (ng:=l) (af.below T af.lt) (by omega);have bo:=yp (x:=u) (A:=r) (k:=C) (c:=j) (ng:=l) L;have ak:=zB (x:=u) (A:=r) (k:=C) (c:=j) (ng:=l) Z L;have a3:=zB (x:=u) (A:=r) (k:=C) (c:=j) (ng:=l) (aN.below T) L;have bk:=zB (x:=u) (A:=r) (k:=C) (c:=j) (ng:=l) (aq.below T) L;have a6:=zT (x:=u) (A:=r) (k:=C) (c:=j) (ng:=l) (ext aK T) (uA);have X:=aB.cell 0
      obtain ⟨_,d1,d2,_⟩:=bp3 aB;obtain ⟨g0,g1,g2,_⟩:=bp3 ba;simp at X;obtain ⟨ah,aj,ai,ap,aA,av,aw⟩:=hz7 bo aB aV ak a3 bk a6;clear ar az au af aG aN aq aK T Z ag L aB aV ba bo ak a3 bk a6;simp only [World.num] at ah aj ai ap aA av aw X d1 d2 g0 g1 g2;go_wp2_with fail;generalize ((bE.setCell { block:=w.heap.size,off:=0 } (.int .i64 u)).setCell { block:=w.heap.size,off:=1 } (.slice r C j)).setCell { block:=w.heap.size,off:=2 } (.bool l)=w11 at ah aj ai ap aA av aw X d1 d2 g0 g1 g2 |-;clear a0 Q S f0 f1 f2;refine (zbv _ _ zd G w11 aA.o av.o aY an.o bi.o).mono ?_;rintro e b7 ⟨v1,v2,rfl,Z,ag,ae⟩;obtain ⟨J,E,I,D,F,rfl,_,_,_⟩:=Z.form;have U:=aj.o.below ae aj.o.lt;have a0:=U.cell 0;have Q:=U.cell 1;have S:=U.cell 2;obtain ⟨f0,f1,f2⟩:=fp3 U;simp at a0 Q S
      have bc:=vP (g' :=w.heap.size+1) (x:=J) (A:=E) (k:=I) (c:=D) (ng:=F) (ah.o.below ae ah.o.lt) (by omega);have be:=vP (g' :=w.heap.size+1) (x:=J) (A:=E) (k:=I) (c:=D) (ng:=F) (ai.o.below ae ai.o.lt) (by omega);have a7:=yp (x:=J) (A:=E) (k:=I) (c:=D) (ng:=F) U;have aX:=zB (x:=J) (A:=E) (k:=I) (c:=D) (ng:=F) Z U;have ak:=zB (x:=J) (A:=E) (k:=I) (c:=D) (ng:=F) (ap.o.below ae) U;have a9:=zT (g:=w.heap.size+1) (x:=J) (A:=E) (k:=I) (c:=D) (ng:=F) (ext aw.o ae) (by omega);have bB :=ze ak;have bw :=ze aX;obtain ⟨bu,aM,aO,K⟩:=hz4 a9 bc a7 be;clear ae Z ag U bc be a7 ak aX a9 ah aj ai ap aA av aw X d1 d2 g0 g1 g2;have X:=aM.o.cell 0;have d1:=aM.o.cell 1;have d2:=aM.o.cell 2;have g0:=aO.o.cell 0;have g1:=aO.o.cell 1;have g2:=aO.o.cell 2;have h0:=K.o.cell 0;have h1:=K.o.cell 1;have h2:=K.o.cell 2;have h3:=K.o.cell 3;have h4:=K.o.cell 4
      have h5:=K.o.cell 5;obtain ⟨j0,j1,j2,j3,j4,j5⟩:=fq6 K;simp at X d1 d2 g0 g1 g2 h0 h1 h2 h3 h4 h5;go_wp2_with fail;have kR:=yz (x:=u) (A:=r) (k:=C) (c:=j) (s:=l) (y:=J) (B:=E) (k' :=I) (c' :=D) (t:=F) K.o;have bH:=yW (x:=u) (A:=r) (k:=C) (c:=j) (s:=l) (y:=J) (B:=E) (k' :=I) (c' :=D) (t:=F) bB.o K.o;have bx:=yW (x:=u) (A:=r) (k:=C) (c:=j) (s:=l) (y:=J) (B:=E) (k' :=I) (c' :=D) (t:=F) bw.o K.o;have bA:=yu (g:=w.heap.size+1+1) (x:=u) (A:=r) (k:=C) (c:=j) (s:=l) (y:=J) (B:=E) (k' :=I) (c' :=D) (t:=F) bu.o (by omega);have e0:=kR.cell 0;have e1:=kR.cell 1;have e2:=kR.cell 2;have e3:=kR.cell 3;have e4:=kR.cell 4;have e5:=kR.cell 5;simp only [World.rat,World.num] at e0 e1 e2 e3 e4 e5;simp at e0 e1 e2 e3 e4 e5
      refine bodyPost_ret (v:=.agg #[.int .i64 u,.slice r C j,.bool l,.int .i64 J,.slice E I D,.bool F]) (by simp [results,results63,go_sem,e0,e1,e2,e3,e4,e5]) rfl ?_;refine ⟨_,rfl,⟨_,_,_,_,_,_,_,_,_,_,rfl,?_,?_⟩,bA⟩
      . rw [bp.o];exact bH
      rw [aZ.o];exact bx
    . clear hf
      obtain ⟨HA,HB,ab,N,ac,HW⟩:=hz6 hA hB kA V kC hW;obtain ⟨P1,P2,aL,aI⟩:=Vv aR an.o;rw [HQ.o] at P1 P2;obtain ⟨G,hG⟩:=uQ (Nat.gcd zn.natAbs zd.natAbs);rw [<- hG] at P1 P2 aL aI;obtain ⟨bp,aZ,bG,bi,HG⟩:=hz5 P1 P2 aL aI hG;clear hA hB kA V kC hW aR P1 P2 aL aI hG;go_wp2_with fail;refine (Z2 _ zn _ HA.o).mono ?_;rintro e w5 ⟨p,rfl,hp,M⟩;have bb:=N.o.below M N.o.lt;obtain ⟨b0,b1,b2,_⟩:=bp3 bb;go_wp2_with fail;refine (Z2 _ zd _ (HB.o.below M)).mono ?_;rintro e w6 ⟨p',rfl,aW,R⟩;have bj:=hp.below R;clear b0 b1 b2 a0 Q S;go_wp2_with fail;refine (zqo p p' _ _ w6 bj aW aE.o an.o).mono ?_;rintro e w7 ⟨q,rfl,hq,aa⟩;rw [<- HG.o] at hq;go_wp2_with fail;refine (yl false q _ w7 hq).mono ?_;rintro e w8 ⟨v,rfl,hv,Y⟩;obtain ⟨x',A',k4,c4,aJ,rfl,_,_,_⟩:=hv.form;have bl:=ext (ext (ext (ext HW.o M) R) aa) Y;have bf:=(((HA.o.below M).below R).below aa).below Y;have bn:=(((HB.o.below M).below R).below aa).below Y;have aH:=zxc ab.o M R aa Y
      have aQ:=zxc N.o M R aa Y;have aF:=zxc ac.o M R aa Y;obtain ⟨a5,aT,bg⟩:=hz3 bl bf bn;have a4:=ze (show zY w8 _ ((G:Nat):Int) from hv);obtain ⟨a0,Q,S,l1⟩:=bp3 aH;have l2:=aQ.lt;have l3:=aF.lt;obtain ⟨aU,bq,bh⟩:=hz3 aH aQ aF;clear M R aa Y bl bf bn hv hq hp aW bj HW HA HB ab N ac bb q1 q2 aH aQ aF;go_wp2_with fail;have O:=zf w8 (.cells #[.int .i64 x',.slice A' k4 c4,.bool aJ] 68);have aG:=aT.o.below O;have aN:=bg.o.below O;have aq:=a4.o.below O;have ar:=aU.o.below O l1;have az:=bq.o.below O l2;have au:=bh.o.below O l3;have af:=Blk.new w8 68 #[.int .i64 x',.slice A' k4 c4,.bool aJ];have aK:=ext a5.o O;generalize bD:w8.heap.size=gg at af |-;have bR:w.heap.size+1+1<gg:=by omega
      generalize w8.alloc (.cells #[.int .i64 x',.slice A' k4 c4,.bool aJ] 68)=w9 at aG aN aq ar az au af aK |-;clear O aT bg a4 aU bq bh a5 a0 Q S l1 l2 l3 bD;have aY:((G:Nat):Int)≠0:=by have:=bG.o;omega
      refine (zbv _ _ zn G w9 aG aq aY aE.o bi.o).mono ?_;rintro e bE ⟨v1,v2,rfl,Z,ag,T⟩;obtain ⟨u,r,C,j,l,rfl,_,_,_⟩:=Z.form;have L:=ar.below T ar.lt;have a0:=L.cell 0;have Q:=L.cell 1;have S:=L.cell 2;obtain ⟨f0,f1,f2⟩:=fp3 L;simp at a0 Q S;have aB:=vP (g' :=w.heap.size) (x:=u) (A:=r) (k:=C) (c:=j) (ng:=l) (az.below T az.lt) (by omega);have aV:=vP (g' :=w.heap.size) (x:=u) (A:=r) (k:=C) (c:=j) (ng:=l) (au.below T au.lt) (by omega);have ba:=vP (g' :=w.heap.size) (x:=u) (A:=r) (k:=C) (c:=j) (ng:=l) (af.below T af.lt) (by omega);have bo:=yp (x:=u) (A:=r) (k:=C) (c:=j) (ng:=l) L;have ak:=zB (x:=u) (A:=r) (k:=C) (c:=j) (ng:=l) Z L;have a3:=zB (x:=u) (A:=r) (k:=C) (c:=j) (ng:=l) (aN.below T) L;have bk:=zB (x:=u) (A:=r) (k:=C) (c:=j) (ng:=l) (aq.below T) L;have a6:=zT (x:=u) (A:=r) (k:=C) (c:=j) (ng:=l) (ext aK T) (uA);have X:=aB.cell 0
      obtain ⟨_,d1,d2,_⟩:=bp3 aB;obtain ⟨g0,g1,g2,_⟩:=bp3 ba;simp at X;obtain ⟨ah,aj,ai,ap,aA,av,aw⟩:=hz7 bo aB aV ak a3 bk a6;clear ar az au af aG aN aq aK T Z ag L aB aV ba bo ak a3 bk a6;simp only [World.num] at ah aj ai ap aA av aw X d1 d2 g0 g1 g2;go_wp2_with fail;generalize ((bE.setCell { block:=w.heap.size,off:=0 } (.int .i64 u)).setCell { block:=w.heap.size,off:=1 } (.slice r C j)).setCell { block:=w.heap.size,off:=2 } (.bool l)=w11 at ah aj ai ap aA av aw X d1 d2 g0 g1 g2 |-;clear a0 Q S f0 f1 f2;refine (zbv _ _ zd G w11 aA.o av.o aY an.o bi.o).mono ?_;rintro e b7 ⟨v1,v2,rfl,Z,ag,ae⟩;obtain ⟨J,E,I,D,F,rfl,_,_,_⟩:=Z.form;have U:=aj.o.below ae aj.o.lt;have a0:=U.cell 0;have Q:=U.cell 1;have S:=U.cell 2;obtain ⟨f0,f1,f2⟩:=fp3 U;simp at a0 Q S
      have bc:=vP (g' :=w.heap.size+1) (x:=J) (A:=E) (k:=I) (c:=D) (ng:=F) (ah.o.below ae ah.o.lt) (by omega);have be:=vP (g' :=w.heap.size+1) (x:=J) (A:=E) (k:=I) (c:=D) (ng:=F) (ai.o.below ae ai.o.lt) (by omega);have a7:=yp (x:=J) (A:=E) (k:=I) (c:=D) (ng:=F) U;have aX:=zB (x:=J) (A:=E) (k:=I) (c:=D) (ng:=F) Z U;have ak:=zB (x:=J) (A:=E) (k:=I) (c:=D) (ng:=F) (ap.o.below ae) U;have a9:=zT (g:=w.heap.size+1) (x:=J) (A:=E) (k:=I) (c:=D) (ng:=F) (ext aw.o ae) (by omega);have bB :=ze ak;have bw :=ze aX;obtain ⟨bu,aM,aO,K⟩:=hz4 a9 bc a7 be;clear ae Z ag U bc be a7 ak aX a9 ah aj ai ap aA av aw X d1 d2 g0 g1 g2;have X:=aM.o.cell 0;have d1:=aM.o.cell 1;have d2:=aM.o.cell 2;have g0:=aO.o.cell 0;have g1:=aO.o.cell 1;have g2:=aO.o.cell 2;have h0:=K.o.cell 0;have h1:=K.o.cell 1;have h2:=K.o.cell 2;have h3:=K.o.cell 3;have h4:=K.o.cell 4
      have h5:=K.o.cell 5;obtain ⟨j0,j1,j2,j3,j4,j5⟩:=fq6 K;simp at X d1 d2 g0 g1 g2 h0 h1 h2 h3 h4 h5;go_wp2_with fail;have kR:=yz (x:=u) (A:=r) (k:=C) (c:=j) (s:=l) (y:=J) (B:=E) (k' :=I) (c' :=D) (t:=F) K.o;have bH:=yW (x:=u) (A:=r) (k:=C) (c:=j) (s:=l) (y:=J) (B:=E) (k' :=I) (c' :=D) (t:=F) bB.o K.o;have bx:=yW (x:=u) (A:=r) (k:=C) (c:=j) (s:=l) (y:=J) (B:=E) (k' :=I) (c' :=D) (t:=F) bw.o K.o;have bA:=yu (g:=w.heap.size+1+1) (x:=u) (A:=r) (k:=C) (c:=j) (s:=l) (y:=J) (B:=E) (k' :=I) (c' :=D) (t:=F) bu.o (by omega);have e0:=kR.cell 0;have e1:=kR.cell 1;have e2:=kR.cell 2;have e3:=kR.cell 3;have e4:=kR.cell 4;have e5:=kR.cell 5;simp only [World.rat,World.num] at e0 e1 e2 e3 e4 e5;simp at e0 e1 e2 e3 e4 e5
      refine bodyPost_ret (v:=.agg #[.int .i64 u,.slice r C j,.bool l,.int .i64 J,.slice E I D,.bool F]) (by simp [results,results63,go_sem,e0,e1,e2,e3,e4,e5]) rfl ?_;refine ⟨_,rfl,⟨_,_,_,_,_,_,_,_,_,_,rfl,?_,?_⟩,bA⟩
      . rw [bp.o];exact bH
      rw [aZ.o];exact bx
  obtain ⟨rfl,rfl⟩:=hf
  obtain ⟨rfl,rfl,rfl,h1,h2⟩:=hA.small;obtain ⟨rfl,rfl,rfl,h3,h4⟩:=hB.small;have bP:=fun w=>Vz zn (.slice none 0 0) s2 w h1 h2
  have HB:=ze (And.intro h1 (And.intro h2 h4));obtain ⟨m,rfl⟩:=Int.eq_ofNat_of_zero_le (Int.le_of_lt aR);have bJ:0<m:=by omega
  have b5:(m:Int)<4611686018427387904:=h4;have cn:IntKind.u64.wrap (m:Int)=(m:Int):=by rw [IntKind.wrap_u64];omega
  clear h1 h2 h3 h4 aR;go_wp2_with fail
  go_region_held3 (fun w' =>w'.cell? ⟨w.heap.size,0,none⟩=some (.int .i64 zn)/\w'.cell? ⟨w.heap.size,1,none⟩=some (.slice none 0 0)/\w'.cell? ⟨w.heap.size,2,none⟩=some (.bool s2)/\w'.cell? ⟨w.heap.size+1,0,none⟩=some (.int .i64 m)/\
   w.heap.size<w'.heap.size/\w.heap.size+1<w'.heap.size/\Hid (Blk w' (w.heap.size+1+1) 70 #[.int .i64 0,.slice none 0 0,.bool false,.int .i64 0,.slice none 0 0,.bool false])/\Hid (Below w.heap.size w w'))
   (first
     | exact ⟨by go_keep,by go_keep,by go_keep,by go_keep,(kA.drewN 1).lt,(V.drewN 1).lt,ze (kC.drewN 1),ze (zk hW 1)⟩
     | go_keep
     | (go_split_ands;exact ⟨zj ‹_› ‹_› ‹_›,zj ‹_› ‹_› ‹_›,zj ‹_› ‹_› ‹_›,zj ‹_› ‹_› ‹_›,zG ‹_› ‹_›,zG ‹_› ‹_›,ZF ‹_› ‹_›,zp ‹_› ‹_›⟩))
   (first
     | (refine (bP _).mono ?_;rintro e w4 ⟨rfl,b6⟩))
  go_split_ands;have ax:=zM (by assumption:Hid (Blk w4 (w.heap.size+1+1) _ _));have bT:=zM (by assumption:Hid (Below w.heap.size w w4));have c0:=ax.cell 0;have c1:=ax.cell 1;have c2:=ax.cell 2;have c3:=ax.cell 3;have c4:=ax.cell 4;have j:=ax.cell 5;obtain ⟨f0,f1,f2,f3,f4,f5⟩:=fp6 ax;simp at c0 c1 c2 c3 c4 j;clear kA V kC hW b6 hA hB;go_wp2
  go_loopw [5,6] (EucR zn.natAbs m w4) (fun _ bv _=>(intOf bv).toNat)
  case atStart=>exact ⟨zn.natAbs,m,0,rfl,rfl,rfl,by have:=HB.o;omega,by omega,rfl⟩
  case round=>
   obtain ⟨a,b,nq,rfl,rfl,rfl,ha,hb,HG⟩:=hrel;have ch:=ax.drewN nq
   by_cases bs:b=0
   . subst bs
     have hg:a=Nat.gcd zn.natAbs m:=by have:=HG.o;rwa [Nat.gcd_zero_right] at this
     have cr:0<a:=by rw [hg];exact Nat.gcd_pos_of_pos_right _ bJ
     obtain ⟨P1,P2⟩:=zcb zn m bJ;rw [<- hg] at P1 P2;rw [HQ.o] at P1 P2;have bp:=ze P1;have aZ:=ze P2;clear P1 P2 hg HG;obtain ⟨t1,t2⟩:=zeq (y:=(a:Int)) HB.o.1 HB.o.2.1;have t3:0<=(m:Int) / (a:Int):=Int.ediv_nonneg (by omega) (by omega);have t4:(m:Int) / (a:Int)<4611686018427387904:=by have:=Int.ediv_le_self (a:=(m:Int)) (a:Int) (by omega);omega
     have cg:((a:Int) == 0)=false:=uD (by omega);have ci :¬ (a:Int)=0:=by omega
     have cc:¬ a=0:=by omega
     have cu:¬ w.heap.size=w.heap.size+1+1:=by omega
     have cs:¬ w.heap.size+1+1=w.heap.size:=by omega
     have w1:IntKind.i64.wrap (a:Int)=(a:Int):=IntWalk.i64_in _ (by omega);have w2:IntKind.i64.wrap (zn.tdiv a)=zn.tdiv a:=IntWalk.i64_in _ (by omega);have w3:IntKind.i64.wrap ((m:Int) / a)=(m:Int) / a:=IntWalk.i64_in _ (by omega);go_wp2_with fail
     go_region_held3 (fun w' =>w'.cell? ⟨w.heap.size,0,none⟩=some (.int .i64 zn)/\w'.cell? ⟨w.heap.size+1,0,none⟩=some (.int .i64 m)) (go_keep) (fail)
     go_wp2;have kD:=((((((ax.drewN (nq+1)).set_ 0 (.int .i64 (zn.tdiv a))).set_ 1 (.slice none 0 0)).set_ 2 (.bool false)).set_ 3 (.int .i64 ((m:Int) / a))).set_ 4 (.slice none 0 0)).set_ 5 (.bool false);obtain ⟨X,d1,d2,d3,d4,d5,_⟩:=bp6 kD;refine bodyPost_ret (v:=.agg #[.int .i64 (zn.tdiv a),.slice none 0 0,.bool false,.int .i64 ((m:Int) / a),.slice none 0 0,.bool false]) (by simp [results,results63,go_sem,X,d1,d2,d3,d4,d5]) rfl ?_;refine ⟨_,rfl,⟨_,_,_,_,_,_,_,_,_,_,rfl,.inl ⟨_,_,rfl,t1,t2,bp.o⟩,.inl ⟨_,_,rfl,by omega,t4,aZ.o⟩⟩,?_⟩;exact ((((((zk bT (nq+1)).setCell (by simp;omega) _).setCell (by simp;omega) _).setCell (by simp;omega) _).setCell (by simp;omega) _).setCell (by simp;omega) _).setCell (by simp;omega) _
   have ca:=ze ha
   have bL:=ze hb;clear ha hb HB b5;have cm:((b:Int) == 0)=false:=uD (by omega);have b9 :¬ (b:Int)=0:=by omega
   go_wp2
   go_quiet (fail)
   go_wp2;go_roundw
   case rel=>
    refine ⟨b,a % b,_,World.drewN_drewN _ _ _,rfl,?_,bL.o,?_,?_⟩
    . go_num
    . have:=Nat.mod_lt a (Nat.pos_of_ne_zero bs);have:=bL.o;omega
    . show _=_
      rw [Nat.gcd_comm, <- Nat.gcd_rec,Nat.gcd_comm];exact HG.o
   case measure=>
    have:=Nat.mod_lt a (Nat.pos_of_ne_zero bs)
    simp [intOf]<;>omega
def zw2 (w:World) (n m:Nat) (e:Ending) (w' :World):Prop:=∃ v v',e= .returned (.tuple #[v,v'])/\zz w' v n/\zz w' v' m/\Below w.heap.size w w'
theorem zeg (w:World) {d:Nat} (h0:0<d) (h:d<1000000000):zz (w.alloc (.cells #[.int .i64 (d:Int)] 3)) (.slice (some ⟨w.heap.size,0,none⟩) 1 1) d:=by
 have b:=xF w 3 (.int .i64 (d:Int))
 exact ⟨_,1,[d],rfl,uA,by unfold maxLen;decide,by simpa [ZL] using b,yZ.mk_ (fun x hx=>by rw [uM] at hx;omega) (fun _=>by simpa using (by omega:d≠0)),YA _ _⟩
theorem zk7 (w:World):zz w (.slice none 0 0) 0:=⟨none,0,[],rfl,by simp,by simp [maxLen],yc.none_,yZ.nil _,rfl⟩
def zsu (da:List Nat) (b:Nat) (w:World) (rv iv:Value) (wr:World):Prop:=
 ∃ (k r:Nat) (Q:List Nat),k<=da.length/\iv= .int .i64 ((k:Int) - 1)/\zz wr rv r/\Hid (r<b)/\Q.length=da.length/\zF 1000000000 Q/\Hid (∀ p,p<k->Q.getD p 0=0)/\
  Hid (val 1000000000 (da.drop k)=val 1000000000 (Q.drop k)*b+r)/\Blk wr w.heap.size 3 (xZ Q)/\Below w.heap.size w wr
def zza (b R:Nat) (Q:List Nat) (w:World) (rv:Value) (lv hv:Value) (wr:World):Prop:=
 ∃ lo hi:Nat,lo<=hi/\hi<1000000000/\lv= .int .i64 lo/\hv= .int .i64 hi/\Hid (lo*b<=R)/\Hid (R<(hi+1)*b)/\zz wr rv R/\Blk wr w.heap.size 3 (xZ Q)/\Below w.heap.size w wr
theorem zk4 {da:List Nat} {k:Nat} (hk:0<k) (hl:k<=da.length):val 1000000000 (da.drop (k - 1))=da[k - 1]'(by omega)+1000000000*val 1000000000 (da.drop k):=by
 have:=Yf 1000000000 da (k - 1) (by omega)
 rwa [show k - 1+1=k by omega] at this
theorem zsu.skip {da Q:List Nat} {b k r:Nat} {w wr:World} {rv iv:Value} (hk:0<k) (hl:k<=da.length) (hQ:Q.length=da.length) (hsQ:zF 1000000000 Q) (HZ:Hid (∀ p,p<k->Q.getD p 0=0))
 (HV:Hid (val 1000000000 (da.drop k)=val 1000000000 (Q.drop k)*b+r)) (hblk:Blk wr w.heap.size 3 (xZ Q)) (hbl:Below w.heap.size w wr)
 (hr:zz wr rv (da[k - 1]'(by omega)+1000000000*r)) (hlt:da[k - 1]'(by omega)+1000000000*r<b) (hiv:iv= .int .i64 ((k:Int) - 1 - 1)):zsu da b w rv iv wr:=by
 refine ⟨k - 1,_,Q,by omega,by rw [hiv];congr 1;omega,hr,hlt,hQ,hsQ,fun p hp=>HZ.o p (by omega),?_,hblk,hbl⟩
 show _=_
 have j:=HV.o
 have e:=HZ.o (k - 1) (by omega)
 rw [zy (by omega)] at e
 rw [zk4 hk hl,zk4 hk (by omega),j,e,Nat.mul_add,Nat.zero_add, <- Nat.mul_assoc]
 omega
theorem zsu.digit {da Q:List Nat} {b k r d:Nat} {w wr:World} {rv iv:Value} (hk:0<k) (hl:k<=da.length) (hQ:Q.length=da.length) (hsQ:zF 1000000000 Q) (HZ:Hid (∀ p,p<k->Q.getD p 0=0))
 (HV:Hid (val 1000000000 (da.drop k)=val 1000000000 (Q.drop k)*b+r)) (hb:0<b) (hblk:Blk wr w.heap.size 3 (xZ (Q.set (k - 1) d))) (hbl:Below w.heap.size w wr)
 (hd:d<1000000000) (h1:d*b<=da[k - 1]'(by omega)+1000000000*r) (h2:da[k - 1]'(by omega)+1000000000*r<(d+1)*b)
 (hr:zz wr rv (da[k - 1]'(by omega)+1000000000*r - b*d)) (hiv:iv= .int .i64 ((k:Int) - 1 - 1)):zsu da b w rv iv wr:=by
 rw [Nat.add_mul,Nat.one_mul] at h2
 rw [uH b d] at hr
 refine ⟨k - 1,_,Q.set (k - 1) d,by omega,by rw [hiv];congr 1;omega,hr,?_,by simpa using hQ,hsQ.set _ _ hd,fun p hp=>by rw [getD_set_ne _ _ _ _ (by omega)];exact HZ.o p (by omega),?_,hblk,hbl⟩
 . show _<_
   omega
 show _=_
 have j:=HV.o;have e:=XZ 1000000000 Q (k - 1) d (by omega);rw [show k - 1+1=k by omega] at e;rw [zk4 hk hl,e,j,Nat.add_mul,Nat.mul_add, <- Nat.mul_assoc]
 omega
theorem VG.more {w:World} {B B' :Nat} {v:Value} {n:Nat} (h:VG w B v n) (hB:B<=B'):VG w B' v n:=by
 obtain ⟨A,c,ds,j,b,m,e,l⟩:=h
 exact ⟨A,c,ds,j,b,m,e.more hB,l⟩
theorem VG.lt9 {w:World} {B n:Nat} {b:Addr} {k c:Nat} (h:VG w B (.slice (some b) k c) n) (hk:0<k):b.block<B:=by
 obtain ⟨A',c',ds,e,r,l,j,m,u⟩:=h
 injection e with e1 e2 e3
 subst e1 e2 e3
 obtain ⟨b,e,hb,_⟩:=j.2 hk
 injection e with e
 subst e
 exact hb
theorem zoh {w:World} {base n:Nat} {v:Value} {ds:List Nat} (h:w.ownsRow base 3 1 v n (ZL ds)) (hn:0<n):∃ g c,v= .slice (some ⟨g,0,none⟩) n c/\base<=g/\n<=c/\c<=maxLen/\yc w w.heap.size 1 (some ⟨g,0,none⟩) n (ZL ds):=by
 rcases h.2 with ⟨rfl,m⟩ | ⟨g,j,l,rfl,hb,y,e,b,u,r⟩
 . omega
 . exact ⟨g,j,rfl,hb,e,b,yc.of_own h⟩
theorem zlh {W:World} {g q i k c n:Nat} {u:Value} (h:zz W (.slice (some ⟨g,0,none⟩) k c) n) (hne:g≠q):zz (W.setCell ⟨q,i,none⟩ u) (.slice (some ⟨g,0,none⟩) k c) n:=by
 obtain ⟨A,c',ds,e,m,j,y,l,r⟩:=h
 injection e with e1 e2 e3
 subst e1 e2 e3
 refine ⟨_,_,ds,rfl,m,j,?_,l,r⟩
 have b:yc (W.setCell ⟨q,i,none⟩ u) W.heap.size 1 (some ⟨g,0,none⟩) ds.length (ZL ds):=yc.apart y (fun p hp=>World.cell?_setCell_other W _ p u (fun e=>by subst e;exact hne hp.symm))
 exact b.more (by simp [World.setCell])
theorem zvr {w:World} {B:Nat} {d:Nat} (hB:B<=w.heap.size):(w.alloc (.cells #[.int .i64 (d:Int)] 3)).ownsRow B 3 1 (.slice (some ⟨w.heap.size,0,none⟩) 1 1) 1 (ZL [d]):=
 World.ownsRow_lit (e:=3) (size:=1) w #[Value.int .i64 (d:Int)] 1 hB (by unfold maxLen;decide) rfl
theorem zra {w w' :World} {o:Obj} {c:Nat} (h:(w.alloc o).grownBy w' (Value.slice (some ⟨w.heap.size,0,none⟩) 1 c).ownBlock):Below w.heap.size w w' :=by
 refine (zf w o).grown h (by simp) ?_
 intro k b
 simp [Value.ownBlock] at b
 omega
theorem znp {n d:Nat} (hd:0<d) (h:n<1000000000*d):n / d<1000000000/\n / d*d<=n/\n<(n / d+1)*d:=by
 refine ⟨Nat.div_lt_of_lt_mul (by rw [uH];exact h),Nat.div_mul_le_self _ _,?_⟩
 have b:=Nat.div_add_mod n d
 have e:=Nat.mod_lt n hd
 rw [Nat.add_mul,Nat.one_mul,uH]
 omega
theorem zpb {n d q:Nat} (hn:n<1000000000000000000) (hd:0<d) (hq:q=n / d):wrap64 ((n:Int) / (d:Int))=(q:Int):=by
 have e:(n:Int) / (d:Int)=(q:Int):=by rw [hq];rfl
 have b:q<=n:=by rw [hq];exact Nat.div_le_self _ _
 rw [e]
 unfold wrap64
 omega
theorem zbl {lo hi:Nat} (h:lo<hi):lo<(lo+hi+1) / 2/\(lo+hi+1) / 2<=hi:=by omega
theorem vZ {n:Nat} (h:0<n) (h2:n<1000000000):len 1000000000 n=1:=by
 unfold len
 rw [ZM (by omega) h,Nat.div_eq_of_lt h2,Z4];rfl
theorem Xb (va vb:Value) (a b:Nat) (w:World) (ha:zz w va a) (hb:zz w vb b) (hb0:0<b) (hla:len 1000000000 a<=33554432) (hlb:len 1000000000 b<=33554432):
 Calls prog 167 #[va,vb] w (zw2 w (a / b) (a % b)):=by
 have bj :=ha
 have bf :=hb
 have co:=ze hla
 have ab:=ze hlb
 have S:=fun w X h2=>Zo va vb a b w X h2 (uC hla (by omega)) (uC hlb (by omega))
 obtain ⟨A,ca,F,rfl,X,h2,bO,h4,a3⟩:=ha
 obtain ⟨B,cb,db,rfl,k1,k2,b6,k4,a5⟩:=hb
 rw [<- a3, <- h4.length_eq (by omega)] at hla
 rw [<- a5, <- k4.length_eq (by omega)] at hlb
 have b0:=h4.1
 have bh :=ze bj
 have au :=ze bf
 obtain ⟨ar,b7,bJ,bG⟩:=hz4 hb0 a3 a5 k4
 obtain ⟨i0,b2,bU,b5,b1⟩:=info_parts zfz
 by_cases aq:a<b
 . have e1:zO (a:Int) b= -1:=by unfold zO;rw [if_pos (by omega)]
   rw [e1] at S;rw [Nat.div_eq_of_lt aq,Nat.mod_eq_of_lt aq];clear e1 aq a3 a5 h4 k4 bj bf hb0
   go_in
   go_wp2_with fail;refine (S _ bh.o au.o).mono ?_;rintro e w1 ⟨rfl,n,rfl⟩;go_wp2;go_ret2;exact ⟨_,_,rfl,zk7 _,bh.o.below (zC _ _),zC _ _⟩
 have hc:∃ c:Int,zO (a:Int) b=c/\¬ c<0:=by
  unfold zO;rw [if_neg (by omega)]
  split
  . exact ⟨1,rfl,by omega⟩
  exact ⟨0,rfl,by omega⟩
 obtain ⟨c0,bx,cf⟩:=hc;rw [bx] at S;have cl:=fun w=>zup .i64 F.length (by omega) w
 clear bx aq a3 a5 h4 k4 bj bf hb0
 go_in
 go_wp2_with fail;refine (S _ bh.o au.o).mono ?_;rintro e w1 ⟨rfl,n,rfl⟩;clear S;go_wp2
 go_loopw [7,8] (zsu F b w) (fun _ iv _=>(intOf iv+1).toNat)
 case atStart=>
  refine ⟨F.length,0,List.replicate F.length 0,uA,rfl,zk7 _,ar.o,by simp,zF.replicate (by omega) _,?_,?_,?_,?_⟩
  . intro p _
    rw [List.getD_eq_getElem?_getD,List.getElem?_replicate]
    split<;>rfl
  . show _=_
    rw [List.drop_length,List.drop_of_length_le (by simp),vX];omega
  . exact (Blk.new _ _ _)
  . exact ext (zC w n) (zf _ _)
 case round=>
  obtain ⟨k,r,Q,hk,rfl,aF,HR,hQ,aN,HZ,HV,aS,a1⟩:=hrel
  by_cases a0:0<k
  rotate_left
  . obtain rfl:k=0:=by omega
    have aX:=zcn aS;rw [hQ] at aX
    have HE:=ze (show val 1000000000 Q=a / b/\r=a % b by
     have X:=HV.o;rw [List.drop_zero,List.drop_zero,b7.o] at X;have h2:=HR.o;have h3:=ar.o
     constructor
     . rw [X,uH,Nat.mul_add_div h3,Nat.div_eq_of_lt h2];rfl
     rw [X,uH,Nat.mul_add_mod,Nat.mod_eq_of_lt h2])
    have bM:F.length<=maxLen:=by unfold maxLen;omega
    have b8:=ze bM;clear bM;go_wp2_with (go_at_call 165;refine (Yn _ _ _ _ _ _ aX aN (uA) b8.o).mono ?_;rintro e w' ⟨v,rfl,bW,rfl⟩);go_ret2;exact ⟨v,_,rfl,by rw [<- HE.o.1];exact bW,by rw [<- HE.o.2];exact aF,a1⟩
  obtain ⟨wo,ce⟩:∃ wo:World,wo=wr:=⟨_,rfl⟩
  subst ce;have a8:k - 1<F.length:=by omega
  obtain ⟨b9,u,rfl,b3,N,br⟩:=bO.at_ (k:=k - 1) a8;rw [vH a8] at N;injection N with N
  subst N;have cc:=(a1.cell (p:=b9.add (k - 1)) (by rw [zD];exact b3)).trans br;have hi:((k:Int) - 1).toNat=k - 1:=by omega
  have bK:F[k - 1]<1000000000:=b0.get (k - 1) a8;have bV :=aF;obtain ⟨R0,cr,dr,rfl,r1,r2,bL,r4,bb⟩:=aF
  have cm:dr.length<=33554432:=by
   have h5:val 1000000000 dr<val 1000000000 db:=by rw [bb,bJ.o];exact HR.o
   have:=yZ.length_le (by omega) r4 bG.o (Nat.le_of_lt h5)
   omega
  have bs:(wo.alloc (.cells #[.int .i64 ((F[k - 1]:Nat):Int)] 3)).ownsRow wo.heap.size 3 1 (.slice (some ⟨wo.heap.size,0,none⟩) 1 1) 1 (ZL [F[k - 1]]):=zvr (uA);have bq :=(bL.below (zf wo (.cells #[.int .i64 ((F[k - 1]:Nat):Int)] 3)));have bC:=zdj dr;have bQ:=ze bb;have bn:=ze r4;clear bb r4 bV r1 r2 br;go_wp2_with (at_builtin;refine ym _ rfl (.tmp 32) (.tmp 33) _ rfl wo.heap.size 3 i0 _ 1 8 underlying110 b2 bU b5 b1 rfl (by omega) _ 1 (ZL [F[k - 1]]) rfl bs _ R0 dr.length cr (ZL dr) rfl bq bC ?o2 ?o3 ?o4 ?_)
  case o2=>unfold maxLen;omega
  case o3=>omega
  case o4=>simp
  intro v3 w3 bo bp bZ;have bI :w3.ownsRow wo.heap.size 3 1 v3 (1+dr.length) (ZL (F[k - 1] :: dr)):=bo;obtain ⟨g,cg,rfl,cv,bm,T,aX⟩:=zoh bI (by omega);have ci:w.heap.size<g:=by have:=aS.lt;omega
  have bg:Below wo.heap.size wo w3:=zra bp;have be:=ext a1 bg;have bD:=aS.below bg aS.lt;have bk:zF 1000000000 (F[k - 1] :: dr):=zF.cons bK bn.o.1;have Y:=ze T;have bP:=ze (show val 1000000000 (F[k - 1] :: dr)=F[k - 1]+1000000000*r by rw [YJ,bQ.o]);have bY:=ze bK;clear bo bI bp bZ T bs bq bL bC cc bg a1 aS;go_wp2_with fail;refine (zfv _ _ _ _ _ _ aX bk bm Y.o).mono ?_;rintro e w4 ⟨kr,rfl,aF,rfl⟩;rw [bP.o] at aF;obtain ⟨R,bc⟩:=uQ (F[k - 1]+1000000000*r);rw [<- bc] at aF;have an:=ze bc;have G:=ze aF;have a6:R<1000000000*b:=by have:=HR.o;have:=bY.o;omega
  have bl:len 1000000000 R<=33554433:=by
   have h5:=vI (β:=1000000000) (by omega) (Nat.le_of_lt a6);have h6:=VX (β:=1000000000) (by omega) 1000000000 b
   have h7:len 1000000000 1000000000=2:=by
    unfold len;rw [ZM (by omega) (by omega),ZM (by omega) (by omega),Z4];rfl
   have h8:=ab.o
   have h9:R<1000000000 ^ (len 1000000000 b+1):=by
    rw [Nat.pow_succ,uH];exact uK a6 (Nat.mul_le_mul (uA) (Nat.le_of_lt (vm (by omega) b)))
   exact uC (y8 (by omega) h9) (by omega)
  have ap:=ze bl;have a7:=ze a6;have S:=fun w X h2=>Zo (.slice (some ⟨g,0,none⟩) kr cg) (.slice B db.length cb) R b w X h2 (uC ap.o (by omega)) (uC ab.o (by omega))
  have aB:=ze be;have aL:=ze bD;have aK:=ze (zz.below au.o be);clear aF bc aX bk bm bl a6 be bD
  by_cases aq:R<b
  . have e1:zO (R:Int) b= -1:=by unfold zO;rw [if_pos (by omega)]
    rw [e1] at S;have bT:=ze aq;clear e1 aq;go_wp2_with fail;refine (S _ G.o aK.o).mono ?_;rintro e w5 ⟨rfl,O,rfl⟩;go_wp2;go_roundw
    case rel=>exact zsu.skip a0 hk hQ aN HZ HV (aL.o.drewN O) (zk aB.o O) (by rw [<- an.o];exact zz.below G.o (zC _ O)) (by rw [<- an.o];exact bT.o) (by go_num)
    case measure=>simp [intOf];omega
  have hc:∃ c:Int,zO (R:Int) b=c/\¬ c<0:=by
   unfold zO;rw [if_neg (by omega)]
   split
   . exact ⟨1,rfl,by omega⟩
   exact ⟨0,rfl,by omega⟩
  obtain ⟨c1,L,ct⟩:=hc;rw [L] at S;have bA:=G.o;have bX:=ze aq;clear L aq
  by_cases aZ:db.length=1
  rotate_left
  . have bN:((db.length:Int) == 1)=false:=by rw [beq_eq_false_iff_ne];omega
    clear aZ bA;go_wp2_with fail;refine (S _ G.o aK.o).mono ?_;rintro e w5 ⟨rfl,O,rfl⟩;go_wp2
    go_loopw [9,10] (zza b R Q w (.slice (some ⟨g,0,none⟩) kr cg)) (fun lv hv _=>(intOf hv - intOf lv).toNat)
    case atStart=>exact ⟨0,999999999,by omega,by omega,rfl,rfl,ze (by omega),ze (by have:=a7.o;omega),zz.below G.o (zC _ O),aL.o.drewN O,zk aB.o O⟩
    case round=>
     clear G aL aB aK;obtain ⟨lo,hi,bv,az,rfl,rfl,af,ao,U,z,K⟩:=hrel
     by_cases aI:lo<hi
     rotate_left
     . obtain rfl:lo=hi:=by omega
       have aY:=z.frozen (k - 1);have aO:=z.lt;have aV:=(z.cell (k - 1)).trans (XB (by omega));have bF:(k:Int) - 1<(F.length:Int):=by omega
       have l:Below w.heap.size w (wr.setCell ⟨w.heap.size,k - 1,none⟩ (.int .i64 (lo:Int))):=K.setCell (uA) _;have ak:=z.set_ (k - 1) (.int .i64 (lo:Int));rw [XA] at ak;have aD:=zlh (q:=w.heap.size) (i:=k - 1) (u:=.int .i64 (lo:Int)) U (by omega);obtain ⟨D,y,ae⟩:=hz3 l ak aD;clear z K U l ak aD aI;have av:(wr.setCell ⟨w.heap.size,k - 1,none⟩ (.int .i64 (lo:Int))).heap.size=wr.heap.size:=by simp [World.setCell]
       have ay:=ze av;have E:=ze (And.intro az (And.intro af.o ao.o));clear av af ao;go_wp2_with fail;rw [<- ay.o];generalize wr.setCell ⟨w.heap.size,k - 1,none⟩ (.int .i64 (lo:Int))=W2 at D y ae ay |-;clear aV aY aO;have l:=zf W2 (.cells #[.int .i64 (lo:Int)] 3);have aC:1<=maxLen:=by unfold maxLen;decide
       refine (Yn _ 1 1 [lo] _ _ (xF W2 3 (.int .i64 (lo:Int))) (fun x N=>by rw [uM] at N;have:=E.o.1;omega) (uA) aC).mono ?_;rintro e w8 ⟨vd,rfl,aj,rfl⟩;rw [YA] at aj;have aP:=ze (show zz _ vd lo from (VG.more aj (by simp)));have ac:=ze (ext D.o l);have ah:=ze (y.o.below l y.o.lt);have aJ:=ze (zz.below ae.o l);clear aj l aC D y ae;have aT:=ze (show len 1000000000 lo<=67108864 from uC (y8 (k:=1) (by omega) (by have:=E.o.1;omega)) (by omega));go_wp2_with fail;refine (vU _ vd b lo _ (zz.below au.o ac.o) aP.o (uC ab.o (by omega)) aT.o).mono ?_;rintro e w9 ⟨v9,rfl,aG,M⟩;have aU:=ze aG;have Z:=ze (ext ac.o M);have ai:=ze (ah.o.below M ah.o.lt);have ax:=ze (zz.below aJ.o M);clear aG M ac ah aJ;go_wp2_with fail;refine (Vs _ v9 R (b*lo) w9 ax.o aU.o (by rw [uH];exact E.o.2.1) (uC ap.o (by omega))).mono ?_;rintro e bE ⟨bw,rfl,aA,al⟩;have aQ:=ze aA;have aR:=ze (ext Z.o al)
       have aW:=ze (ai.o.below al ai.o.lt);clear aA al Z ai ax;go_wp2;go_roundw
       case rel=>exact zsu.digit a0 hk hQ aN HZ HV ar.o aW.o aR.o E.o.1 (by rw [<- an.o];exact E.o.2.1) (by rw [<- an.o];exact E.o.2.2) (by rw [<- an.o];exact aQ.o) (by go_num)
       case measure=>simp [intOf];omega
     obtain ⟨j,aw⟩:=uQ ((lo+hi+1) / 2)
     obtain ⟨m1,m2⟩:=zbl aI;rw [<- aw] at m1 m2;have bB:((lo:Int)+(hi:Int)+1) / 2=(j:Int):=by omega
     have l:=zf wr (.cells #[.int .i64 (j:Int)] 3);have HT:=ze (fun X=>vU (.slice B db.length cb) _ b j (wr.alloc (.cells #[.int .i64 (j:Int)] 3)) (zz.below au.o (ext K l)) (zeg wr (by omega) (by omega)) (uC ab.o (by omega)) X);have aH:=ze (show len 1000000000 j<=67108864 by rw [vZ (by omega) (by omega)];omega);have aE:=ze (show len 1000000000 (b*j)<=67108864 from uC (VX (by omega) _ _) (by have:=ab.o;rw [vZ (n:=j) (by omega) (by omega)];omega));have y:=ze (z.below l z.lt);have D:=ze (ext K l);have V:=ze (zz.below U l);clear aw U z K l
     by_cases T:b*j<=R
     rotate_left
     . have ad:=ze (show zO ((b*j:Nat):Int) (R:Int)=1 by unfold zO;rw [if_neg (by omega),if_pos (by omega)])
       have Y:=ze (show R<(j - 1+1)*b by rw [show j - 1+1=j by omega,uH];omega);clear T;go_wp2_with fail;refine (HT.o aH.o).mono ?_;rintro e w6 ⟨v6,rfl,I,m⟩;have J:=ze (Zo v6 (.slice (some ⟨g,0,none⟩) kr cg) (b*j) R w6 I (zz.below V.o m) aE.o (uC ap.o (by omega)));have am:=ze (y.o.below m y.o.lt);have ag:=ze (ext D.o m);have aa:=ze (zz.below V.o m);clear I m;rw [ad.o] at J;go_wp2_with fail;refine J.o.mono ?_;rintro e w7 ⟨rfl,C,rfl⟩;go_wp2;go_roundw
       case rel=>exact ⟨lo,j - 1,by omega,by omega,rfl,congrArg _ (by omega),af,Y,zz.below aa.o (zC _ C),am.o.drewN C,zk ag.o C⟩
       case measure=>simp [intOf];omega
     have L:∃ c:Int,zO ((b*j:Nat):Int) (R:Int)=c/\c<=0:=by
      unfold zO
      by_cases h9:b*j<R
      . exact ⟨-1,by rw [if_pos (by omega)],by omega⟩
      exact ⟨0,by rw [if_neg (by omega),if_neg (by omega)],by omega⟩
     obtain ⟨c1,L,bu⟩:=L;have ad:=ze L;have Y:=ze (show j*b<=R by rw [uH];exact T);clear L T;go_wp2_with fail;refine (HT.o aH.o).mono ?_;rintro e w6 ⟨v6,rfl,I,m⟩;have J:=ze (Zo v6 (.slice (some ⟨g,0,none⟩) kr cg) (b*j) R w6 I (zz.below V.o m) aE.o (uC ap.o (by omega)));have am:=ze (y.o.below m y.o.lt);have ag:=ze (ext D.o m);have aa:=ze (zz.below V.o m);clear I m;rw [ad.o] at J;go_wp2_with fail;refine J.o.mono ?_;rintro e w7 ⟨rfl,C,rfl⟩;go_wp2;go_roundw
     case rel=>exact ⟨j,hi,m2,az,rfl,rfl,Y,ao,zz.below aa.o (zC _ C),am.o.drewN C,zk ag.o C⟩
     case measure=>simp [intOf];omega
  have bN:((db.length:Int) == 1)=true:=by rw [aZ];rfl
  have a9:db[0]'(by omega)=b:=by
   rw [<- bJ.o]
   match db,aZ with
   | [x],_=>simp [val]
  have M:b<1000000000:=by rw [<- a9];exact bG.o.1.get 0 (by omega)
  obtain ⟨a2,u,rfl,bR,N,bz⟩:=b6.at_ (k:=0) (by omega);rw [vH (by omega),a9] at N;injection N with N
  subst N;obtain ⟨A',c',ds,e,j1,j2,j3,j4,j5⟩:=bA;injection e with e1 e2 e3
  subst e1 e2 e3;have a4:R<1000000000 ^ 2:=by have:=a7.o;have:1000000000*b<=1000000000*1000000000:=Nat.mul_le_mul (uA) (by omega);omega
  have bi:ds.length<=2:=yZ.length_lt_pow (by omega) j4 (by rw [j5];exact a4);have cq:w3.cell? a2=some (.int .i64 (b:Int)):=(aB.o.cell (p:=a2) bR).trans (by have:=bz;simpa [Addr.add] using this);have ch:¬ b=0:=by have:=ar.o;omega
  have cs :((b:Int) == 0)=false:=by rw [beq_eq_false_iff_ne];omega
  have cp:¬ (b:Int)=0:=by omega
  have ck:0<db.length:=by omega
  have bH:(1000000000:Nat) ^ 2=1000000000000000000:=by decide
  have b4:R<1000000000000000000:=by rw [bH] at a4;exact a4
  clear bH;have aM:=ze (znp (n:=R) (d:=b) ar.o a7.o);obtain ⟨q0,bd⟩:=uQ (R / b);rw [<- bd] at aM;have Z:=ze (zpb b4 ar.o bd);clear a4 bz a9 bd M
  match ds,bi,j3,j4,j5,G,bn,S with
  | [],_,_,_,j5,_,_,_=>exact absurd (show R=0 from j5.symm) (by have:=bX.o;have:=ar.o;omega)
  | [y0],_,j3,j4,j5,G,_,S=>
    have hy:y0=R:=by rw [<- j5,YA]
    subst hy;have ba:=Yv j3 0 (.int .i64 (y0:Int)) (by simp [ZL]);have bS:=G.o.lt9 (by simp)
    simp [Addr.add] at ba
    clear j3 j4 j5 aZ;go_wp2_with fail;refine (S _ G.o aK.o).mono ?_;rintro e w5 ⟨rfl,O,rfl⟩;go_wp2
    go_quiet (fail)
    rw [Z.o];go_wp2
    go_loopw [9,10] (zza b y0 Q w (.slice (some ⟨g,0,none⟩) [y0].length cg)) (fun lv hv _=>(intOf hv - intOf lv).toNat)
    case atStart=>exact ⟨q0,q0,uA,aM.o.1,rfl,rfl,ze aM.o.2.1,ze aM.o.2.2,zz.below G.o (ext (zC _ O) (zC _ nq)),(aL.o.drewN O).drewN nq,zk (zk aB.o O) nq⟩
    case round=>
     clear G aL aB aK;obtain ⟨lo,hi,bv,az,rfl,rfl,af,ao,U,z,K⟩:=hrel
     by_cases aI:lo<hi
     rotate_left
     . obtain rfl:lo=hi:=by omega
       have aY:=z.frozen (k - 1);have aO:=z.lt;have aV:=(z.cell (k - 1)).trans (XB (by omega));have bF:(k:Int) - 1<(F.length:Int):=by omega
       have l:Below w.heap.size w (wr.setCell ⟨w.heap.size,k - 1,none⟩ (.int .i64 (lo:Int))):=K.setCell (uA) _;have ak:=z.set_ (k - 1) (.int .i64 (lo:Int));rw [XA] at ak;have aD:=zlh (q:=w.heap.size) (i:=k - 1) (u:=.int .i64 (lo:Int)) U (by omega);obtain ⟨D,y,ae⟩:=hz3 l ak aD;clear z K U l ak aD aI;have av:(wr.setCell ⟨w.heap.size,k - 1,none⟩ (.int .i64 (lo:Int))).heap.size=wr.heap.size:=by simp [World.setCell]
       have ay:=ze av;have E:=ze (And.intro az (And.intro af.o ao.o));clear av af ao;go_wp2_with fail;rw [<- ay.o];generalize wr.setCell ⟨w.heap.size,k - 1,none⟩ (.int .i64 (lo:Int))=W2 at D y ae ay |-;clear aV aY aO;have l:=zf W2 (.cells #[.int .i64 (lo:Int)] 3);have aC:1<=maxLen:=by unfold maxLen;decide
       refine (Yn _ 1 1 [lo] _ _ (xF W2 3 (.int .i64 (lo:Int))) (fun x N=>by rw [uM] at N;have:=E.o.1;omega) (uA) aC).mono ?_;rintro e w8 ⟨vd,rfl,aj,rfl⟩;rw [YA] at aj;have aP:=ze (show zz _ vd lo from (VG.more aj (by simp)));have ac:=ze (ext D.o l);have ah:=ze (y.o.below l y.o.lt);have aJ:=ze (zz.below ae.o l);clear aj l aC D y ae;have aT:=ze (show len 1000000000 lo<=67108864 from uC (y8 (k:=1) (by omega) (by have:=E.o.1;omega)) (by omega));go_wp2_with fail;refine (vU _ vd b lo _ (zz.below au.o ac.o) aP.o (uC ab.o (by omega)) aT.o).mono ?_;rintro e w9 ⟨v9,rfl,aG,M⟩;have aU:=ze aG;have Z:=ze (ext ac.o M);have ai:=ze (ah.o.below M ah.o.lt);have ax:=ze (zz.below aJ.o M);clear aG M ac ah aJ;go_wp2_with fail;refine (Vs _ v9 y0 (b*lo) w9 ax.o aU.o (by rw [uH];exact E.o.2.1) (uC ap.o (by omega))).mono ?_;rintro e bE ⟨bw,rfl,aA,al⟩;have aQ:=ze aA;have aR:=ze (ext Z.o al)
       have aW:=ze (ai.o.below al ai.o.lt);clear aA al Z ai ax;go_wp2;go_roundw
       case rel=>exact zsu.digit a0 hk hQ aN HZ HV ar.o aW.o aR.o E.o.1 (by rw [<- an.o];exact E.o.2.1) (by rw [<- an.o];exact E.o.2.2) (by rw [<- an.o];exact aQ.o) (by go_num)
       case measure=>simp [intOf];omega
     obtain ⟨j,aw⟩:=uQ ((lo+hi+1) / 2)
     obtain ⟨m1,m2⟩:=zbl aI;rw [<- aw] at m1 m2;have bB:((lo:Int)+(hi:Int)+1) / 2=(j:Int):=by omega
     have l:=zf wr (.cells #[.int .i64 (j:Int)] 3);have HT:=ze (fun X=>vU (.slice (some a2) db.length cb) _ b j (wr.alloc (.cells #[.int .i64 (j:Int)] 3)) (zz.below au.o (ext K l)) (zeg wr (by omega) (by omega)) (uC ab.o (by omega)) X);have aH:=ze (show len 1000000000 j<=67108864 by rw [vZ (by omega) (by omega)];omega);have aE:=ze (show len 1000000000 (b*j)<=67108864 from uC (VX (by omega) _ _) (by have:=ab.o;rw [vZ (n:=j) (by omega) (by omega)];omega));have y:=ze (z.below l z.lt);have D:=ze (ext K l);have V:=ze (zz.below U l);clear aw U z K l
     by_cases T:b*j<=y0
     rotate_left
     . have ad:=ze (show zO ((b*j:Nat):Int) (y0:Int)=1 by unfold zO;rw [if_neg (by omega),if_pos (by omega)])
       have Y:=ze (show y0<(j - 1+1)*b by rw [show j - 1+1=j by omega,uH];omega);clear T;go_wp2_with fail;refine (HT.o aH.o).mono ?_;rintro e w6 ⟨v6,rfl,I,m⟩;have J:=ze (Zo v6 (.slice (some ⟨g,0,none⟩) [y0].length cg) (b*j) y0 w6 I (zz.below V.o m) aE.o (uC ap.o (by omega)));have am:=ze (y.o.below m y.o.lt);have ag:=ze (ext D.o m);have aa:=ze (zz.below V.o m);clear I m;rw [ad.o] at J;go_wp2_with fail;refine J.o.mono ?_;rintro e w7 ⟨rfl,C,rfl⟩;go_wp2;go_roundw
       case rel=>exact ⟨lo,j - 1,by omega,by omega,rfl,congrArg _ (by omega),af,Y,zz.below aa.o (zC _ C),am.o.drewN C,zk ag.o C⟩
       case measure=>simp [intOf];omega
     have L:∃ c:Int,zO ((b*j:Nat):Int) (y0:Int)=c/\c<=0:=by
      unfold zO
      by_cases h9:b*j<y0
      . exact ⟨-1,by rw [if_pos (by omega)],by omega⟩
      exact ⟨0,by rw [if_neg (by omega),if_neg (by omega)],by omega⟩
     obtain ⟨c1,L,bu⟩:=L;have ad:=ze L;have Y:=ze (show j*b<=y0 by rw [uH];exact T);clear L T;go_wp2_with fail;refine (HT.o aH.o).mono ?_;rintro e w6 ⟨v6,rfl,I,m⟩;have J:=ze (Zo v6 (.slice (some ⟨g,0,none⟩) [y0].length cg) (b*j) y0 w6 I (zz.below V.o m) aE.o (uC ap.o (by omega)));have am:=ze (y.o.below m y.o.lt);have ag:=ze (ext D.o m);have aa:=ze (zz.below V.o m);clear I m;rw [ad.o] at J;go_wp2_with fail;refine J.o.mono ?_;rintro e w7 ⟨rfl,C,rfl⟩;go_wp2;go_roundw
     case rel=>exact ⟨j,hi,m2,az,rfl,rfl,Y,ao,zz.below aa.o (zC _ C),am.o.drewN C,zk ag.o C⟩
     case measure=>simp [intOf];omega
  | [y0,y1],_,j3,j4,j5,G,_,S=>
    have hy:y0+y1*1000000000=R:=by rw [<- j5];simp [val];omega
    have cn:(y0:Int)+(y1:Int)*1000000000=(R:Int):=by omega
    have ba:=Yv j3 0 (.int .i64 (y0:Int)) (by simp [ZL]);have cd:=Yv j3 1 (.int .i64 (y1:Int)) (by simp [ZL]);have bS:=G.o.lt9 (by simp)
    simp [Addr.add] at ba cd
    have cu:y0<1000000000:=by have:=j4.1.get 0 (by simp);simpa using this
    have cj:y1<1000000000:=by have:=j4.1.get 1 (by simp);simpa using this
    clear j3 j4 j5 aZ hy;go_wp2_with fail;refine (S _ G.o aK.o).mono ?_;rintro e w5 ⟨rfl,O,rfl⟩;go_wp2
    go_quiet (fail)
    rw [Z.o];go_wp2
    go_loopw [9,10] (zza b R Q w (.slice (some ⟨g,0,none⟩) [y0,y1].length cg)) (fun lv hv _=>(intOf hv - intOf lv).toNat)
    case atStart=>exact ⟨q0,q0,uA,aM.o.1,rfl,rfl,ze aM.o.2.1,ze aM.o.2.2,zz.below G.o (ext (zC _ O) (zC _ nq)),(aL.o.drewN O).drewN nq,zk (zk aB.o O) nq⟩
    case round=>
     clear G aL aB aK;obtain ⟨lo,hi,bv,az,rfl,rfl,af,ao,U,z,K⟩:=hrel
     by_cases aI:lo<hi
     rotate_left
     . obtain rfl:lo=hi:=by omega
       have aY:=z.frozen (k - 1);have aO:=z.lt;have aV:=(z.cell (k - 1)).trans (XB (by omega));have bF:(k:Int) - 1<(F.length:Int):=by omega
       have l:Below w.heap.size w (wr.setCell ⟨w.heap.size,k - 1,none⟩ (.int .i64 (lo:Int))):=K.setCell (uA) _;have ak:=z.set_ (k - 1) (.int .i64 (lo:Int));rw [XA] at ak;have aD:=zlh (q:=w.heap.size) (i:=k - 1) (u:=.int .i64 (lo:Int)) U (by omega);obtain ⟨D,y,ae⟩:=hz3 l ak aD;clear z K U l ak aD aI;have av:(wr.setCell ⟨w.heap.size,k - 1,none⟩ (.int .i64 (lo:Int))).heap.size=wr.heap.size:=by simp [World.setCell]
       have ay:=ze av;have E:=ze (And.intro az (And.intro af.o ao.o));clear av af ao;go_wp2_with fail;rw [<- ay.o];generalize wr.setCell ⟨w.heap.size,k - 1,none⟩ (.int .i64 (lo:Int))=W2 at D y ae ay |-;clear aV aY aO;have l:=zf W2 (.cells #[.int .i64 (lo:Int)] 3);have aC:1<=maxLen:=by unfold maxLen;decide
       refine (Yn _ 1 1 [lo] _ _ (xF W2 3 (.int .i64 (lo:Int))) (fun x N=>by rw [uM] at N;have:=E.o.1;omega) (uA) aC).mono ?_;rintro e w8 ⟨vd,rfl,aj,rfl⟩;rw [YA] at aj;have aP:=ze (show zz _ vd lo from (VG.more aj (by simp)));have ac:=ze (ext D.o l);have ah:=ze (y.o.below l y.o.lt);have aJ:=ze (zz.below ae.o l);clear aj l aC D y ae;have aT:=ze (show len 1000000000 lo<=67108864 from uC (y8 (k:=1) (by omega) (by have:=E.o.1;omega)) (by omega));go_wp2_with fail;refine (vU _ vd b lo _ (zz.below au.o ac.o) aP.o (uC ab.o (by omega)) aT.o).mono ?_;rintro e w9 ⟨v9,rfl,aG,M⟩;have aU:=ze aG;have Z:=ze (ext ac.o M);have ai:=ze (ah.o.below M ah.o.lt);have ax:=ze (zz.below aJ.o M);clear aG M ac ah aJ;go_wp2_with fail;refine (Vs _ v9 R (b*lo) w9 ax.o aU.o (by rw [uH];exact E.o.2.1) (uC ap.o (by omega))).mono ?_;rintro e bE ⟨bw,rfl,aA,al⟩;have aQ:=ze aA;have aR:=ze (ext Z.o al)
       have aW:=ze (ai.o.below al ai.o.lt);clear aA al Z ai ax;go_wp2;go_roundw
       case rel=>exact zsu.digit a0 hk hQ aN HZ HV ar.o aW.o aR.o E.o.1 (by rw [<- an.o];exact E.o.2.1) (by rw [<- an.o];exact E.o.2.2) (by rw [<- an.o];exact aQ.o) (by go_num)
       case measure=>simp [intOf];omega
     obtain ⟨j,aw⟩:=uQ ((lo+hi+1) / 2)
     obtain ⟨m1,m2⟩:=zbl aI;rw [<- aw] at m1 m2;have bB:((lo:Int)+(hi:Int)+1) / 2=(j:Int):=by omega
     have l:=zf wr (.cells #[.int .i64 (j:Int)] 3);have HT:=ze (fun X=>vU (.slice (some a2) db.length cb) _ b j (wr.alloc (.cells #[.int .i64 (j:Int)] 3)) (zz.below au.o (ext K l)) (zeg wr (by omega) (by omega)) (uC ab.o (by omega)) X);have aH:=ze (show len 1000000000 j<=67108864 by rw [vZ (by omega) (by omega)];omega);have aE:=ze (show len 1000000000 (b*j)<=67108864 from uC (VX (by omega) _ _) (by have:=ab.o;rw [vZ (n:=j) (by omega) (by omega)];omega));have y:=ze (z.below l z.lt);have D:=ze (ext K l);have V:=ze (zz.below U l);clear aw U z K l
     by_cases T:b*j<=R
     rotate_left
     . have ad:=ze (show zO ((b*j:Nat):Int) (R:Int)=1 by unfold zO;rw [if_neg (by omega),if_pos (by omega)])
       have Y:=ze (show R<(j - 1+1)*b by rw [show j - 1+1=j by omega,uH];omega);clear T;go_wp2_with fail;refine (HT.o aH.o).mono ?_;rintro e w6 ⟨v6,rfl,I,m⟩;have J:=ze (Zo v6 (.slice (some ⟨g,0,none⟩) [y0,y1].length cg) (b*j) R w6 I (zz.below V.o m) aE.o (uC ap.o (by omega)));have am:=ze (y.o.below m y.o.lt);have ag:=ze (ext D.o m);have aa:=ze (zz.below V.o m);clear I m;rw [ad.o] at J;go_wp2_with fail;refine J.o.mono ?_;rintro e w7 ⟨rfl,C,rfl⟩;go_wp2;go_roundw
       case rel=>exact ⟨lo,j - 1,by omega,by omega,rfl,congrArg _ (by omega),af,Y,zz.below aa.o (zC _ C),am.o.drewN C,zk ag.o C⟩
       case measure=>simp [intOf];omega
     have L:∃ c:Int,zO ((b*j:Nat):Int) (R:Int)=c/\c<=0:=by
      unfold zO
      by_cases h9:b*j<R
      . exact ⟨-1,by rw [if_pos (by omega)],by omega⟩
      exact ⟨0,by rw [if_neg (by omega),if_neg (by omega)],by omega⟩
     obtain ⟨c1,L,bu⟩:=L;have ad:=ze L;have Y:=ze (show j*b<=R by rw [uH];exact T);clear L T;go_wp2_with fail;refine (HT.o aH.o).mono ?_;rintro e w6 ⟨v6,rfl,I,m⟩;have J:=ze (Zo v6 (.slice (some ⟨g,0,none⟩) [y0,y1].length cg) (b*j) R w6 I (zz.below V.o m) aE.o (uC ap.o (by omega)));have am:=ze (y.o.below m y.o.lt);have ag:=ze (ext D.o m);have aa:=ze (zz.below V.o m);clear I m;rw [ad.o] at J;go_wp2_with fail;refine J.o.mono ?_;rintro e w7 ⟨rfl,C,rfl⟩;go_wp2;go_roundw
     case rel=>exact ⟨j,hi,m2,az,rfl,rfl,Y,ao,zz.below aa.o (zC _ C),am.o.drewN C,zk ag.o C⟩
     case measure=>simp [intOf];omega
  | _ :: _ :: _ :: _,bi,_,_,_,_,_,_=>simp at bi
def zx0 (β:Nat) (w:World) (v:Value):Nat:=match v with
 | .slice (some ad) n _=>val β ((List.range n).map fun i=>match w.cell? (ad.add i) with
   | some (.int _ z)=>z.toNat
   | _=>0)
 | _=>0
def zig (w:World) (v:Value):Nat:=zx0 1000000000 w v
theorem zh4 {w:World} {v:Value} {n:Nat} (h:zz w v n):zig w v=n:=by
 obtain ⟨A,c,ds,rfl,y,r,b,u,rfl⟩:=h
 unfold zig zx0
 rcases A with _ | m
 . have l:ds=[]:=by
    apply uI
    rcases uN ds.length with h | h
    . exact h
    . obtain ⟨m,e,_⟩:=b.2 h
      cases e
   subst l;rfl
 . simp only
   congr 1
   apply List.ext_getElem
   . simp
   intro i z j
   have:=Yv b i _ (vH j)
   simp [this]
def ComR (w:World) (G:Nat) (v0 v1:Value) (wr:World):Prop:=
 ∃ x y:Nat,zz wr v0 x/\zz wr v1 y/\Hid (Nat.gcd x y=G)/\Hid (len 1000000000 x<=33554432)/\Hid (len 1000000000 y<=33554432)/\Below w.heap.size w wr
theorem znc (va vb:Value) (a b:Nat) (w:World) (ha:zz w va a) (hb:zz w vb b) (hla:len 1000000000 a<=33554432) (hlb:len 1000000000 b<=33554432):
 Calls prog 166 #[va,vb] w (zge w (Nat.gcd a b)):=by
 have aa:=ze hla
 have ab:=ze hlb
 clear hla hlb
 go_in
 go_wp2
 go_loopw [0,1] (ComR w (Nat.gcd a b)) (fun _ M wr=>zig wr M)
 case atStart=>exact ⟨a,b,ha,hb,rfl,aa,ab,Below.refl _ _⟩
 case round=>
  obtain ⟨x,y,Q,C,J,T,m,r⟩:=hrel
  have K:=zh4 C
  have G:=C
  obtain ⟨B,O,j,rfl,k1,k2,ae,S,z⟩:=C
  have V:=ze K
  have N:=ze z
  have D:=S.length_eq (β:=1000000000) (by omega)
  rw [z] at D
  have ad:j.length<=33554432:=by rw [D];exact m.o
  clear K z D k2
  by_cases l:j.length=0
  . have hd:j=[]:=uI l
    have R:y=0:=by have:=N.o;rw [hd,vX] at this;omega
    have F:x=Nat.gcd a b:=by have:=J.o;rw [R,Nat.gcd_zero_right] at this;exact this
    have Y:=ze F;have af:¬ (0:Int)<(j.length:Int):=by omega
    clear hd R F l;go_wp2;go_ret;exact ⟨_,rfl,by rw [<- Y.o];exact Q,r⟩
  have L:0<j.length:=by omega
  have u:0<y:=by
   rcases uN y with e | e
   . exfalso
     have h:=N.o;rw [e] at h;have:=(S.zero_iff (by omega)).1 h;rw [this] at L;simp at L
   . exact e
  have HZ:=ze l;have X:=ze (Xb _ (.slice B j.length O) x y wr Q G u T.o m.o);clear l;go_wp2_with (go_at_call 167;refine (zM X).mono ?_;rintro e U ⟨M,Z,rfl,ac,I,E⟩);go_roundw
  case rel=>
   refine ⟨y,x % y,zz.below G E,I,?_,m,?_,r.trans (E.mono r.size)⟩
   rotate_left
   . exact uC (vI (by omega) (Nat.le_of_lt (Nat.mod_lt _ u))) m.o
   show _=_
   rw [<- J.o,Nat.gcd_comm x y,Nat.gcd_rec y x,Nat.gcd_comm]
  case measure=>
   show zig U Z<zig wr (.slice B j.length O)
   rw [zh4 I,V.o];exact Nat.mod_lt _ u
def vW (w:World) (v:Value) (q:Rat):Prop:=
 ∃ ng A n c B m d,v= .agg #[.bool ng,.slice A n c,.slice B m d]/\ng=decide (q.num<0)/\zz w (.slice A n c) q.num.natAbs/\zz w (.slice B m d) q.den
theorem vW.below {w w' :World} {v:Value} {q:Rat} (h:vW w v q) (hb:Below w.heap.size w w'):vW w' v q:=by
 obtain ⟨ng,A,n,c,B,m,d,b,e,l,j⟩:=h
 exact ⟨ng,A,n,c,B,m,d,b,e,zz.below l hb,zz.below j hb⟩
def Vt (w:World) (q:Rat) (e:Ending) (w' :World):Prop:=∃ v,e= .returned v/\vW w' v q/\Below w.heap.size w w'
abbrev World.ref (w:World) (g:Nat) (ng:Bool) (A:Option Addr) (n c:Nat) (B:Option Addr) (m d:Nat):World:=
 ((w.setCell ⟨g,0,none⟩ (.bool ng)).setCell ⟨g,1,none⟩ (.slice A n c)).setCell ⟨g,2,none⟩ (.slice B m d)
def zs5 (cs:Array Value):Prop:=∀ (i:Nat) (d:Int),cs[i]?≠some (.int .i64 d)
theorem zuu (ng:Bool) (A:Option Addr) (n c:Nat) (B:Option Addr) (m d:Nat):zs5 #[.bool ng,.slice A n c,.slice B m d]:=by
 intro i z h
 match i with
 | 0=>simp at h
 | 1=>simp at h
 | 2=>simp at h
 | n+3=>simp at h
theorem zz.stored {w w' :World} {g:Nat} {t:TypeId} {cs:Array Value} {v:Value} {n:Nat} (h:zz w v n) (hb:Blk w g t cs) (hno:zs5 cs)
 (hk:∀ p:Addr,p.block≠g->w'.cell? p=w.cell? p) (hs:w.heap.size<=w'.heap.size):zz w' v n:=by
 obtain ⟨A,c',ds,rfl,D,B,l,C,E⟩:=h
 refine ⟨A,c',ds,rfl,D,B,⟨l.1,?_⟩,C,E⟩
 intro r
 obtain ⟨y,rfl,F,m⟩:=l.2 r
 have z:y.block≠g:=by
  intro e
  have b:=m 0 _ (vH r)
  unfold World.cell? at b
  rw [zD,e,show w.heap[g]?=_ from hb] at b
  simp only at b
  split at b
  . cases b
  exact hno _ _ b
 exact ⟨y,rfl,by omega,fun j u hu=>(hk _ (by rw [zD];exact z)).trans (m j u hu)⟩
section
variable {W w:World} {g:Nat} {t:TypeId} {ng n0:Bool} {A B A0 B0:Option Addr} {n c m d k0 c0 k1 c1 x:Nat} {v:Value}
theorem yO (hk:Blk W g t #[.bool n0,.slice A0 k0 c0,.slice B0 k1 c1]):Blk (World.ref W g ng A n c B m d) g t #[.bool ng,.slice A n c,.slice B m d]:=((hk.set_ 0 _).set_ 1 _).set_ 2 _
theorem yb (hv:zz W v x) (hk:Blk W g t #[.bool n0,.slice A0 k0 c0,.slice B0 k1 c1]):zz (World.ref W g ng A n c B m d) v x:=by
 refine hv.stored hk (zuu _ _ _ _ _ _ _) ?_ (by simp [World.ref,World.setCell])
 intro p b
 simp only [World.ref]
 rw [World.cell?_setCell_other,World.cell?_setCell_other,World.cell?_setCell_other]
 all_goals (intro e;subst e;exact b rfl)
theorem yy (h:Below w.heap.size w W) (hg:w.heap.size<=g):Below w.heap.size w (World.ref W g ng A n c B m d):=((h.setCell hg _).setCell hg _).setCell hg _
theorem zrn {g' :Nat} {cs:Array Value} (hk:Blk W g t cs) (hne:g≠g'):Blk (World.ref W g' ng A n c B m d) g t cs:=((hk.far hne _).far hne _).far hne _
end
theorem zz.form {w:World} {v:Value} {n:Nat} (h:zz w v n):∃ A c,v= .slice A (len 1000000000 n) c:=by
 obtain ⟨A,c,ds,rfl,e,j,l,b,rfl⟩:=h
 exact ⟨A,c,by rw [b.length_eq (by omega)]⟩
theorem zg0 (z:Int) (m:Nat) (hm:0<m):(Rat.divInt z m).num=z.tdiv ((Nat.gcd z.natAbs m:Nat):Int)/\((Rat.divInt z m).den:Int)=(m:Int) / ((Nat.gcd z.natAbs m:Nat):Int):=by
 have e:(m:Int).gcd z=Nat.gcd z.natAbs m:=by show Nat.gcd _ _=_;rw [Int.natAbs_natCast,Nat.gcd_comm]
 have b:(m:Int).sign=1:=Int.sign_eq_one_of_pos (by omega)
 constructor
 . rw [Rat.num_divInt,e,b,Int.one_mul,Int.tdiv_eq_ediv_of_dvd]
   exact Int.ofNat_dvd_left.2 (Nat.gcd_dvd_left _ _)
 rw [Rat.den_divInt,if_neg (by omega),e,Int.natAbs_natCast]
 rfl
theorem zjb (neg:Bool) (n d:Nat) (hd:0<d):
 (vh neg n d).num.natAbs=n / Nat.gcd n d/\(vh neg n d).den=d / Nat.gcd n d/\decide ((vh neg n d).num<0)=(neg && decide (n≠0)):=by
 have y:0<Nat.gcd n d:=Nat.gcd_pos_of_pos_right _ hd
 have m:(if neg=true then -(n:Int) else n).natAbs=n:=by cases neg<;>simp
 obtain ⟨e,l⟩:=zg0 (if neg=true then -(n:Int) else n) d hd
 rw [m] at e l
 have j:(vh neg n d).num=(if neg=true then -(n:Int) else n).tdiv ((Nat.gcd n d:Nat):Int):=e
 have z:((vh neg n d).den:Int)=(d:Int) / ((Nat.gcd n d:Nat):Int):=l
 refine ⟨?_,?_,?_⟩
 . rw [j,Int.natAbs_tdiv,m];rfl
 . have:(d:Int) / ((Nat.gcd n d:Nat):Int)=((d / Nat.gcd n d:Nat):Int):=rfl
   omega
 . rw [j]
   have r:0<n->0<n / Nat.gcd n d:=fun h=>Nat.div_pos (Nat.le_of_dvd h (Nat.gcd_dvd_left _ _)) y
   cases neg with
   | true=>
     simp only [if_true,Int.neg_tdiv,Bool.true_and];have b:((n:Int)).tdiv ((Nat.gcd n d:Nat):Int)=((n / Nat.gcd n d:Nat):Int):=rfl;rw [b];rw [Bool.eq_iff_iff,decide_eq_true_iff,decide_eq_true_iff]
     constructor
     . intro h u;rw [u,Nat.zero_div] at h;omega
     intro h;have:=r (by omega);omega
   | false=>
     have b:(if false=true then -(n:Int) else n).tdiv ((Nat.gcd n d:Nat):Int)=((n / Nat.gcd n d:Nat):Int):=rfl;rw [b,Bool.false_and,decide_eq_false_iff_not];exact Int.not_lt.2 (Int.natCast_nonneg _)
theorem zz.first {w:World} {A:Option Addr} {k c n:Nat} (h:zz w (.slice A k c) n) (hn:len 1000000000 n=1):∃ b,A=some b/\k=1/\b.block<w.heap.size/\w.cell? b=some (.int .i64 (n:Int)):=by
 obtain ⟨A',c',ds,e,z,y,j,m,rfl⟩:=h
 injection e with e1 e2 e3
 subst e1 e2 e3
 rw [<- m.length_eq (by omega)] at hn
 match ds,hn,j with
 | [x],_,j=>
   obtain ⟨b,u,rfl,hb,l,r⟩:=j.at_ (k:=0) (by simp)
   simp [ZL] at l
   subst l;rw [YA];exact ⟨b,rfl,rfl,hb,by simpa [Addr.add] using r⟩
theorem Yo (neg:Bool) (va vb:Value) (n d:Nat) (w:World) (ha:zz w va n) (hb:zz w vb d) (hd:0<d) (hla:len 1000000000 n<=33554432) (hlb:len 1000000000 d<=33554432):
 Calls prog 129 #[.bool neg,va,vb] w (Vt w (vh neg n d)):=by
 obtain ⟨A,c,rfl⟩:=ha.form
 obtain ⟨B,c',rfl⟩:=hb.form
 obtain ⟨L1,L2,L3⟩:=zjb neg n d hd
 have ag:=zf w (.cells #[.bool false,.slice none 0 0,.slice none 0 0] 112)
 have kR:=Blk.new w 112 #[.bool false,.slice none 0 0,.slice none 0 0]
 have HA:=ze (zz.below ha ag)
 have HB:=ze (zz.below hb ag)
 obtain ⟨HW,HK,ac,aa,Z,ar,af,HD⟩:=hz8 ag kR L1 L2 L3 hla hlb hd
 clear ha hb ag kR L1 L2 L3 hlb
 by_cases V:n=0
 . have az:((len 1000000000 n:Int) == 0)=true:=by rw [V,VD];rfl
   have J:=ze V;clear V
   go_in
   go_wp2_with fail;refine bodyPost_ret (v:=.agg #[.bool false,.slice none 0 0,.slice (some ⟨w.heap.size+1,0,none⟩) 1 1]) (by simp [results,results129,go_sem]) rfl ?_;have F:=zeg (w.alloc (.cells #[.bool false,.slice none 0 0,.slice (some ⟨w.heap.size+1,0,none⟩) 1 1] 112)) (d:=1) (by omega) (by omega);simp only [World.size_alloc] at F;refine ⟨_,rfl,⟨false,none,0,0,_,1,1,rfl,?_,?_,?_⟩,ext (zf _ _) (zf _ _)⟩
   . rw [Z.o,J.o];simp
   . rw [ac.o,J.o,Nat.zero_div];exact zk7 _
   . rw [aa.o,J.o,Nat.gcd_zero_left,Nat.div_self HD.o];exact F
 have az:((len 1000000000 n:Int) == 0)=false:=by rw [beq_eq_false_iff_ne];have:=zb0 (β:=1000000000) (n:=n) (by omega) (by omega);omega
 have aw:=fun w F h2=>znc (.slice A (len 1000000000 n) c) (.slice B (len 1000000000 d) c') n d w F h2 ar.o af.o
 have J:=ze V;clear V
 go_in
 go_wp2_with fail;refine (aw _ HA.o HB.o).mono ?_;rintro e w1 ⟨vg,rfl,ad,Y⟩;obtain ⟨C,cg,rfl⟩:=ad.form;obtain ⟨G,O⟩:=uQ (Nat.gcd n d);rw [<- O] at ad;have S:=ze O;have ax:0<G:=by rw [O];exact Nat.gcd_pos_of_pos_right _ HD.o
 have av:len 1000000000 G<=33554432:=by rw [O];exact uC (vI (by omega) (Nat.gcd_le_right _ HD.o)) af.o
 rw [<- O];obtain ⟨M,ae,ab⟩:=hz3 ad ax av;have ak:=ze (zz.below HA.o Y);have am:=ze (zz.below HB.o Y);have l:=ze (HK.o.below Y HK.o.lt);have aq:=ze (ext HW.o Y);have r0:=l.o.cell 0;have I:=l.o.cell 1;have K:=l.o.cell 2;obtain ⟨f0,f1,f2⟩:=fq3 l;have lr:=l.o.lt;simp at r0 I K;clear O ax av ad Y HA HB HW HK aw
 by_cases F:G=1
 . subst F
   obtain ⟨aA,rfl,N,aB,aC⟩:=M.o.first (vZ (by omega) (by omega));rw [N]
   have au:=ze (show (vh neg n d).num.natAbs=n/\(vh neg n d).den=d/\decide ((vh neg n d).num<0)=neg by
    rw [ac.o,aa.o,Z.o, <- S.o,Nat.div_one,Nat.div_one,uE J.o,Bool.and_true];exact ⟨rfl,rfl,rfl⟩)
   clear N;go_wp2_with fail;have z:=yO (ng:=neg) (A:=A) (n:=(len 1000000000 n)) (c:=c) (B:=B) (m:=(len 1000000000 d)) (d:=c') l.o;have r:=z.cell 0;have D:=z.cell 1;have u:=z.cell 2;simp only [World.ref] at r D u;simp at r D u;refine bodyPost_ret (v:=.agg #[.bool neg,.slice A ((len 1000000000 n)) c,.slice B ((len 1000000000 d)) c']) (by simp [results,results129,go_sem,r,D,u]) rfl ?_;refine ⟨_,rfl,⟨_,_,_,_,_,_,_,rfl,?_,?_,?_⟩,yy (w:=w) (g:=w.heap.size) aq.o (uA)⟩
   . exact au.o.2.2.symm
   . rw [au.o.1];exact yb ak.o l.o
   . rw [au.o.2.1];exact yb am.o l.o
 by_cases N:len 1000000000 G=1
 rotate_left
 . have aE:((len 1000000000 G:Int) == 1)=false:=by rw [beq_eq_false_iff_ne];omega
   clear F N;go_wp2_with fail;refine (Xb _ _ n G _ ak.o M.o ae.o ar.o ab.o).mono ?_;rintro e w2 ⟨q1,q2,rfl,j,_,y⟩;have ao:=ze j;have ap:=ze (zz.below am.o y);have an:=ze (zz.below M.o y);have R:=ze (l.o.below y l.o.lt);have al:=ze (ext aq.o y);clear j y r0 I K f0 f1 f2 lr;go_wp2_with fail;refine (Xb _ _ d G w2 ap.o an.o ae.o af.o ab.o).mono ?_;rintro e w3 ⟨q3,q4,rfl,L,_,E⟩;have j:=zz.below ao.o E;obtain ⟨Q,U,rfl⟩:=j.form;obtain ⟨X,T,rfl⟩:=L.form;have aj :=ze j;have ah:=ze L;have b:=ze (R.o.below E R.o.lt);have ai:=ze (ext al.o E);have r0:=b.o.cell 0;have I:=b.o.cell 1;have K:=b.o.cell 2;obtain ⟨f0,f1,f2⟩:=fq3 b;have lr:=b.o.lt;simp at r0 I K;clear j L E;go_wp2_with fail;have z:=yO (ng:=neg) (A:=Q) (n:=(len 1000000000 (n / G))) (c:=U) (B:=X) (m:=(len 1000000000 (d / G))) (d:=T) b.o;have r:=z.cell 0;have D:=z.cell 1;have u:=z.cell 2
   simp only [World.ref] at r D u;simp at r D u;refine bodyPost_ret (v:=.agg #[.bool neg,.slice Q ((len 1000000000 (n / G))) U,.slice X ((len 1000000000 (d / G))) T]) (by simp [results,results129,go_sem,r,D,u]) rfl ?_;refine ⟨_,rfl,⟨_,_,_,_,_,_,_,rfl,?_,?_,?_⟩,yy (w:=w) (g:=w.heap.size) ai.o (uA)⟩
   . rw [Z.o,uE J.o,Bool.and_true]
   . rw [ac.o, <- S.o];exact yb aj.o b.o
   . rw [aa.o, <- S.o];exact yb ah.o b.o
 obtain ⟨aA,rfl,ay,aB,aC⟩:=M.o.first N
 have aD:((G:Int) == 1)=false:=by rw [beq_eq_false_iff_ne];omega
 rw [ay] at M |-;clear F ay N;go_wp2_with fail;refine (Xb _ _ n G _ ak.o M.o ae.o ar.o ab.o).mono ?_;rintro e w2 ⟨q1,q2,rfl,j,_,y⟩;have ao:=ze j;have ap:=ze (zz.below am.o y);have an:=ze (zz.below M.o y);have R:=ze (l.o.below y l.o.lt);have al:=ze (ext aq.o y);clear j y r0 I K f0 f1 f2 lr;go_wp2_with fail;refine (Xb _ _ d G w2 ap.o an.o ae.o af.o ab.o).mono ?_;rintro e w3 ⟨q3,q4,rfl,L,_,E⟩;have j:=zz.below ao.o E;obtain ⟨Q,U,rfl⟩:=j.form;obtain ⟨X,T,rfl⟩:=L.form;have aj :=ze j;have ah:=ze L;have b:=ze (R.o.below E R.o.lt);have ai:=ze (ext al.o E);have r0:=b.o.cell 0;have I:=b.o.cell 1;have K:=b.o.cell 2;obtain ⟨f0,f1,f2⟩:=fq3 b;have lr:=b.o.lt;simp at r0 I K;clear j L E;go_wp2_with fail;have z:=yO (ng:=neg) (A:=Q) (n:=(len 1000000000 (n / G))) (c:=U) (B:=X) (m:=(len 1000000000 (d / G))) (d:=T) b.o;have r:=z.cell 0;have D:=z.cell 1
 have u:=z.cell 2;simp only [World.ref] at r D u;simp at r D u;refine bodyPost_ret (v:=.agg #[.bool neg,.slice Q ((len 1000000000 (n / G))) U,.slice X ((len 1000000000 (d / G))) T]) (by simp [results,results129,go_sem,r,D,u]) rfl ?_;refine ⟨_,rfl,⟨_,_,_,_,_,_,_,rfl,?_,?_,?_⟩,yy (w:=w) (g:=w.heap.size) ai.o (uA)⟩
 . rw [Z.o,uE J.o,Bool.and_true]
 . rw [ac.o, <- S.o];exact yb aj.o b.o
 . rw [aa.o, <- S.o];exact yb ah.o b.o
def zsj (v:Value):Prop:=∀ x,v≠ .int .i64 x
def zd7 (w:World) (b:Nat):Prop:=∀ p:Addr,p.block=b->∀ x,w.cell? p≠some (.int .i64 x)
theorem zg8 {w:World} {b:Nat} {cs:Array Value} {t:TypeId} {fr:Nat×Nat} (h:w.heap[b]?=some (.cells cs t fr)) (hn:∀ u∈cs,zsj u):zd7 w b:=by
 intro p j x e
 unfold World.cell? at e
 rw [j,h] at e
 simp only at e
 split at e
 . cases e
 exact hn _ (Array.mem_of_getElem? e) x rfl
theorem zq4 {cs:Array Value} (h:zs5 cs):∀ u∈cs,zsj u:=by
 intro u hu x e
 subst e
 obtain ⟨i,hi,e⟩:=Array.mem_iff_getElem.1 hu
 exact h i x (by rw [Array.getElem?_eq_getElem hi,e])
section
variable {S:Nat->Prop} {w w' :World}
theorem Chg.siz {v:Value} {n:Nat} (h:Chg S w w') (hn:zz w v n) (hS:∀ b,S b->zd7 w b):zz w' v n:=by
 obtain ⟨A,c,ds,e,B,y,l,C,z⟩:=hn
 refine ⟨A,c,ds,e,B,y,⟨l.1,fun h0=>?_⟩,C,z⟩
 obtain ⟨F,D,hb,E⟩:=l.2 h0
 refine ⟨F,D,uK hb h.size,fun j u hu=>?_⟩
 have m:=E j u hu
 have r:∃ d:Nat,u= .int .i64 (d:Int):=by
  unfold ZL at hu
  rw [List.getElem?_map] at hu
  obtain ⟨d,_,e⟩:=Option.map_eq_some_iff.1 hu
  exact ⟨d,e.symm⟩
 obtain ⟨d,rfl⟩:=r
 exact h.cell m (fun hs=>hS _ hs _ rfl _ m)
theorem Chg.ref {v:Value} {q:Rat} (h:Chg S w w') (hn:vW w v q) (hS:∀ b,S b->zd7 w b):vW w' v q:=by
 obtain ⟨ng,A,n,c,B,m,d,e,j,r,l⟩:=hn
 exact ⟨ng,A,n,c,B,m,d,e,j,h.siz r hS,h.siz l hS⟩
theorem Chg.noI64 {b:Nat} (h:Chg S w w') (hn:zd7 w b) (hb:b<w.heap.size) (hS:¬ S b):zd7 w' b:=by
 intro p e x j
 refine hn p e x ?_
 rw [<- j]
 unfold World.cell?
 rw [e,h.block b hb hS]
end
def ztz (w:World) (g k:Nat) (q:Rat):Prop:=
 ∃ (ng:Bool) (A:Option Addr) (n c:Nat) (B:Option Addr) (m d:Nat),w.cell? ⟨g,k*3,none⟩=some (.bool ng)/\w.cell? ⟨g,k*3+1,none⟩=some (.slice A n c)/\w.cell? ⟨g,k*3+2,none⟩=some (.slice B m d)/\
  vW w (.agg #[.bool ng,.slice A n c,.slice B m d]) q
def zah (w:World) (g L n:Nat) (f:Nat->Rat):Prop:=(∃ cs,Blk w g 112 cs/\cs.size=L*3/\zs5 cs)/\∀ k,k<n->ztz w g k (f k)
section
variable {S:Nat->Prop} {w w' :World} {g L n:Nat} {f:Nat->Rat}
theorem ztz.chg {k:Nat} {q:Rat} (h:ztz w g k q) (hc:Chg S w w') (hg:¬ S g) (hS:∀ b,S b->zd7 w b):ztz w' g k q:=by
 obtain ⟨ng,A,n,c,B,m,d,l,e,j,r⟩:=h
 exact ⟨ng,A,n,c,B,m,d,hc.cell l hg,hc.cell e hg,hc.cell j hg,hc.ref r hS⟩
theorem zah.lt (h:zah w g L n f):g<w.heap.size:=by obtain ⟨⟨cs,h,_⟩,_⟩:=h;exact h.lt
theorem zah.chg (h:zah w g L n f) (hc:Chg S w w') (hg:¬ S g) (hS:∀ b,S b->zd7 w b):zah w' g L n f:=by
 obtain ⟨⟨cs,e,j,m⟩,l⟩:=h
 exact ⟨⟨cs,hc.blk e hg,j,m⟩,fun k hk=>(l k hk).chg hc hg hS⟩
theorem zah.below (h:zah w g L n f) (hb:Below w.heap.size w w'):zah w' g L n f:=h.chg (S:=fun _=>False) (Chg.of_below hb) (fun h=>h) (fun _ h=>h.elim)
theorem zqa (b:Bool):zsj (.bool b):=fun _ e=>by cases e
theorem zfi (A:Option Addr) (n c:Nat):zsj (.slice A n c):=fun _ e=>by cases e
end
def zo0 (w:World) (base:Nat) (e:TypeId) (size:Nat) (v:Value) (n:Nat) (xs:List Value):Prop:=w.ownsRow base e size v n xs/\∀ g,v.ownBlock=some g->zd7 w g
theorem zs9 (w:World) (base:Nat) (e:TypeId) (size:Nat):zo0 w base e size (.slice none 0 0) 0 []:=⟨World.ownsRow_nil w base e size,fun g h=>by cases h⟩
section
variable {S:Nat->Prop} {w w' :World} {base n size:Nat} {e:TypeId} {v:Value} {xs:List Value}
theorem zo0.chg (h:zo0 w base e size v n xs) (hc:Chg S w w') (hS:∀ g,v.ownBlock=some g->¬ S g):zo0 w' base e size v n xs:=by
 obtain ⟨b,r⟩:=h
 have l:=b.lt
 refine ⟨⟨b.1,?_⟩,fun g hg=>hc.noI64 (r g hg) (l g hg).2 (hS g hg)⟩
 rcases b.2 with j | ⟨g,y,m,rfl,j,u,z⟩
 . exact .inl j
 . exact .inr ⟨g,y,m,rfl,j,(hc.block g (l g rfl).2 (hS g rfl)).trans u,z⟩
end
theorem zal {z:Array Value} {k:Nat} {u:Value} (h:u∈Builtin.zeroCells z k) (hz:0<z.size):u∈z:=by
 unfold Builtin.zeroCells at h
 rw [Array.mem_map] at h
 obtain ⟨i,_,rfl⟩:=h
 have:=Nat.mod_lt i hz
 rw [getElem!_pos z _ this]
 exact Array.getElem_mem this
section
variable {P:Program} (w:World)
theorem zcr (base:Nat) (t ty e:TypeId) (i:TypeInfo) (z:Value) (size bytes:Nat) (ht:P.underlying t=some (.slice e)) (hi:P.info? e=some i) (hz:i.zero=some z)
 (hsize:i.size=size) (hby:i.bytes=bytes) (hzs:z.cells.size=size) (hsz:0<size)
 (v:Value) (n:Nat) (xs:List Value) (hown:zo0 w base e size v n xs)
 (ad:Addr) (m c:Nat) (news:List Value) (hl:news.length=m*size) (hm:0<m) (hnews:∀ j u,news[j]?=some u->w.cell? (ad.add j)=some u) (h1:∀ u∈news,u.oneCell' =true)
 (hno:∀ u∈news,zsj u) (hzn:∀ u∈z.cells,zsj u) (h63:n+m<=maxLen) (hbytes:(n+m)*bytes<=140737488355328) (hbase:base<=w.heap.size):
 ∃ y w',(Builtin.append_ #[t,t] ty #[v,.slice (some ad) m c]).run P w= .ok y w' /\zo0 w' base e size y (n+m) (xs ++ news)/\w.grownBy w' v.ownBlock/\(y.ownBlock=v.ownBlock\/y.ownBlock=some w.heap.size):=by
 obtain ⟨y,w',D,N,X,_,R⟩:=run_append_own_at (P:=P) w base t ty e i z size bytes ht hi hz hsize hby hzs hsz v n xs hown.1 ad m c news hl hnews h1 h63 hbytes hbase
 refine ⟨y,w',D,⟨N,fun g hg=>?_⟩,X,R⟩
 subst hsize
 subst hby
 have Y:n+m<=9223372036854775807:=by simp only [maxLen] at h63;omega
 have Q:∀ u∈xs,zsj u:=by
  rcases hown.1.2 with ⟨rfl,F⟩ | ⟨g',C,b,rfl,U,B,V,O,M,L⟩
  . have:xs=[]:=uI (by rw [hown.1.1,F];omega)
    subst this;intro u hu;cases hu
  . intro u hu x E
    subst E;rw [<- L] at hu;have G:=List.mem_of_mem_take hu;obtain ⟨k,I,l⟩:=List.mem_iff_getElem.1 G;refine hown.2 g' rfl ⟨g',k,none⟩ rfl x ?_;rw [cell_of_row w g' k b e (0,0) B, <- Array.getElem?_toList,List.getElem?_eq_getElem I,l]
 rcases hown.1.2 with ⟨rfl,F⟩ | ⟨g',C,b,rfl,U,B,V,O,M,L⟩
 . subst F
   have r:=run_append_nil (P:=P) w t ty e i z ht hi hz ad m c news hl hnews hm (by omega) (by have hb:=hbytes;simp only [Nat.zero_add] at hb;omega);rw [D] at r;injection r with l e2
   subst l e2;obtain rfl:w.heap.size=g:=by simpa [Value.ownBlock] using hg
   refine zg8 (heap_alloc_new w.drew _) ?_;intro u hu
   rcases Array.mem_append.1 hu with h | h
   . exact hno u (by simpa using h)
   . exact hzn u (zal h (by omega))
 . by_cases J:n+m<=C
   rotate_left
   . have S:∀ j u,xs[j]?=some u->w.cell? ((⟨g',0,none⟩:Addr).add j)=some u:=hown.1.cells (g:=g') rfl
     have r:=run_append_grow (P:=P) w t ty e i z ht hi hz ⟨g',0,none⟩ n C xs hown.1.1 S ad m c news hl hnews (by omega) (by omega) (growslice_fits (by omega) hbytes);rw [D] at r;injection r with l e2
     subst l e2;obtain rfl:w.heap.size=g:=by simpa [Value.ownBlock] using hg
     refine zg8 (heap_alloc_new w.drew _) ?_;intro u hu
     rcases Array.mem_append.1 hu with h | h
     . rcases Array.mem_append.1 h with h | h
       . exact Q u (by simpa using h)
       . exact hno u (by simpa using h)
     . exact hzn u (zal h (by omega))
   have T:n*i.size+news.length<=b.size:=by rw [hl,M, <- Nat.add_mul];exact Nat.mul_le_mul_right _ J
   have r:=run_append_room (P:=P) w t ty e i ht hi g' n C b B ad m c news hl hnews h1 J T;rw [D] at r;injection r with l e2
   subst l e2;obtain rfl:g' =g:=by simpa [Value.ownBlock] using hg
   refine zg8 (setRow_heap w g' b _ e _ B) ?_
   have K:∀ u∈b.toList,zsj u:=by
    intro u hu x E;subst E;obtain ⟨k,I,l⟩:=List.mem_iff_getElem.1 hu;refine hown.2 g' rfl ⟨g',k,none⟩ rfl x ?_;rw [cell_of_row w g' k b e (0,0) B, <- Array.getElem?_toList,List.getElem?_eq_getElem I,l]
   intro u hu;have G:u∈b.toList.take (n*i.size) ++ news ++ b.toList.drop (n*i.size+news.length):=by simpa using hu
   rcases List.mem_append.1 G with h | h
   . rcases List.mem_append.1 h with h | h
     . exact K u (List.mem_of_mem_take h)
     . exact hno u h
   . exact K u (List.mem_of_mem_drop h)
theorem VR {w:World} {ops:Array Oper} {rest:List Oper} {o:Oper} {a:Act} {Q:Exit->Act->World->Prop} (hgd:o.guard=none) (s x:Operand) (t:TypeId)
 (ho:o.op= .call { callee:=.builtin .append,args:=#[s,x],argTypes:=#[t,t] })
 (base:Nat) (e:TypeId) (i:TypeInfo) (z:Value) (size bytes:Nat) (ht:P.underlying t=some (.slice e)) (hi:P.info? e=some i) (hz:i.zero=some z)
 (hsize:i.size=size) (hby:i.bytes=bytes) (hzs:z.cells.size=size) (hsz:0<size)
 (v:Value) (n:Nat) (xs:List Value) (hs:a.eval s=v) (hown:zo0 w base e size v n xs)
 (ad:Addr) (m c:Nat) (news:List Value) (hx:a.eval x= .slice (some ad) m c) (hl:news.length=m*size) (hm:0<m) (hnews:∀ j u,news[j]?=some u->w.cell? (ad.add j)=some u) (h1:∀ u∈news,u.oneCell' =true)
 (hno:∀ u∈news,zsj u) (hzn:∀ u∈z.cells,zsj u) (h63:n+m<=maxLen) (hbytes:(n+m)*bytes<=140737488355328) (hbase:base<=w.heap.size)
 (h:∀ b w',zo0 w' base e size b (n+m) (xs ++ news)->w.grownBy w' v.ownBlock->(b.ownBlock=v.ownBlock\/b.ownBlock=some w.heap.size)->wpList P ops Q rest (a.put o.dst b) w'):wpList P ops Q (o :: rest) a w:=
 wpList_plain hgd fun K hK=>by
  obtain ⟨b,w',l,r,B,y⟩:=zcr (P:=P) w base t o.type e i z size bytes ht hi hz hsize hby hzs hsz v n xs hown ad m c news hl hm hnews h1 hno hzn h63 hbytes hbase
  unfold Oper.wp execOp
  simp only [ho,resolve,invoke,builtin,Sem.run_bind,Sem.run_pure,Result.andThen_ok,List.map_toArray,List.map_cons,List.map_nil,hs,hx,l]
  exact hK _ _ (h b w' r B y)
end
end Go.Proofs.YtnjljgidphemdaaGreatDoor
