/- Parts of the proof: memory, numbers, walks of the functions that are called. -/
import Derived.IntWalk
import Derived.Test.YtkmcmmcencdcpaaGreatDoorMb12
set_option linter.unusedVariables false
set_option linter.unusedSimpArgs false
namespace Go.Proofs.YtkmcmmcencdcpaaGreatDoor
open Go.RowKit Go.Deep
def yu (w:World) (v:Value) (q:Rat):Prop:=
 ∃ x A k c s y B k' c' t,v= .agg #[.int .i64 x,.slice A k c,.bool s,.int .i64 y,.slice B k' c',.bool t]/\zE w (.agg #[.int .i64 x,.slice A k c,.bool s]) q.num/\zE w (.agg #[.int .i64 y,.slice B k' c',.bool t]) (q.den:Int)
def zbw (w:World) (q:Rat) (e:Ending) (w' :World):Prop:=∃ v,e= .returned v/\yu w' v q/\Below w.heap.size w w'
theorem yu.below {w w' :World} {v:Value} {q:Rat} (h:yu w v q) (hb:Below w.heap.size w w'):yu w' v q:=by
 obtain ⟨x,A,k,c,s,y,B,k',c',t,h1,h2,h3⟩:=h
 exact ⟨x,A,k,c,s,y,B,k',c',t,h1,h2.below hb,h3.below hb⟩
def zfd (w:World) (q:Rat) (wr:World):Prop:=
 ∃ x A k c s y B k' c' t zn zd,zE wr (.agg #[.int .i64 x,.slice A k c,.bool s]) zn/\zE wr (.agg #[.int .i64 y,.slice B k' c',.bool t]) zd/\
  Blk wr w.heap.size 91 #[.int .i64 x,.slice A k c,.bool s]/\Blk wr (w.heap.size+1) 91 #[.int .i64 y,.slice B k' c',.bool t]/\
  Blk wr (w.heap.size+1+1) 93 #[.int .i64 0,.slice none 0 0,.bool false,.int .i64 0,.slice none 0 0,.bool false]/\Below w.heap.size w wr/\0<zd/\Hid (Rat.divInt zn zd=q)/\Hid (len 4294967296 zn.natAbs<=33554432)/\Hid (len 4294967296 zd.natAbs<=33554432)
theorem zE.small {w:World} {x z:Int} {k c:Nat} {s:Bool} (h:zE w (.agg #[.int .i64 x,.slice none k c,.bool s]) z):k=0/\c=0/\z=x/\ -4611686018427387904<x/\x<4611686018427387904:=by
 obtain ⟨x',A,k',c',s',e,h1,h2,h3⟩:=h.form
 injection e with e
 have e0:=congrArg (fun a=>a.toList) e
 simp at e0
 obtain ⟨rfl,⟨rfl,rfl,rfl⟩,rfl⟩:=e0
 obtain ⟨r1,r2,r3⟩:=h3 rfl
 exact ⟨r1,r2,r3,h1,h2⟩
def EucR (x y:Nat) (w:World) (av bv:Value) (wr:World):Prop:=∃ a b nq:Nat,wr=w.drewN nq/\av= .int .u64 a/\bv= .int .u64 b/\a<4611686018427387904/\b<4611686018427387904/\Hid (Nat.gcd a b=Nat.gcd x y)
theorem Xe (z:Int) (m:Nat) (hm:0<m):(Rat.divInt z m).num=z.tdiv ((Nat.gcd z.natAbs m:Nat):Int)/\((Rat.divInt z m).den:Int)=(m:Int) / ((Nat.gcd z.natAbs m:Nat):Int):=by
 have e:(m:Int).gcd z=Nat.gcd z.natAbs m:=by show Nat.gcd _ _=_;rw [Int.natAbs_natCast,Nat.gcd_comm]
 have hs:(m:Int).sign=1:=Int.sign_eq_one_of_pos (by omega)
 constructor
 . rw [Rat.num_divInt,e,hs,Int.one_mul,Int.tdiv_eq_ediv_of_dvd]
   exact Int.ofNat_dvd_left.2 (Nat.gcd_dvd_left _ _)
 . rw [Rat.den_divInt,if_neg (by omega),e,Int.natAbs_natCast]
   rfl
theorem zfd.negs {w W:World} {z y x2 x3 x0 y0:Int} {A2 A3 A0 B0:Option Addr} {k2 c2 k3 c3 k0 c0 k0' c0' :Nat} {s2 s3 s0 t0:Bool} (hA:zE W (.agg #[.int .i64 x2,.slice A2 k2 c2,.bool s2]) (-z)) (hB:zE W (.agg #[.int .i64 x3,.slice A3 k3 c3,.bool s3]) (-y))
 (kA:Blk W w.heap.size 91 #[.int .i64 x0,.slice A0 k0 c0,.bool s0]) (kB:Blk W (w.heap.size+1) 91 #[.int .i64 y0,.slice B0 k0' c0',.bool t0])
 (kC:Blk W (w.heap.size+1+1) 93 #[.int .i64 0,.slice none 0 0,.bool false,.int .i64 0,.slice none 0 0,.bool false]) (hW:Below w.heap.size w W) (hy:y<0)
 (hlz:len 4294967296 z.natAbs<=33554432) (hly:len 4294967296 y.natAbs<=33554432):
 zfd w (Rat.divInt z y) (World.num (World.num W w.heap.size x2 A2 k2 c2 s2) (w.heap.size+1) x3 A3 k3 c3 s3):=by
 have kB1:=xk (g' :=w.heap.size) (x:=x2) (A:=A2) (k:=k2) (c:=c2) (ng:=s2) kB (by omega)
 have kC1:=xk (g' :=w.heap.size) (x:=x2) (A:=A2) (k:=k2) (c:=c2) (ng:=s2) kC (by omega)
 have kA1:=zQ (x:=x2) (A:=A2) (k:=k2) (c:=c2) (ng:=s2) kA
 exact ⟨_,_,_,_,_,_,_,_,_,_,_,_,zt (zt hA kA) kB1,zt (zt hB kA) kB1,xk kA1 (by omega),zQ kB1,xk kC1 (by omega),
  zz (zz hW (Nat.le_refl _)) (by omega),by omega,Rat.neg_divInt_neg z y,ze (by rw [Int.natAbs_neg];exact hlz),ze (by rw [Int.natAbs_neg];exact hly)⟩
abbrev World.rat (w:World) (g:Nat) (x:Int) (A:Option Addr) (k c:Nat) (s:Bool) (y:Int) (B:Option Addr) (k' c' :Nat) (t:Bool):World:=
 ((((((w.setCell ⟨g,0,none⟩ (.int .i64 x)).setCell ⟨g,1,none⟩ (.slice A k c)).setCell ⟨g,2,none⟩ (.bool s)).setCell ⟨g,3,none⟩ (.int .i64 y)).setCell ⟨g,4,none⟩ (.slice B k' c')).setCell ⟨g,5,none⟩ (.bool t))
theorem X1 (x:Int) (A:Option Addr) (k c:Nat) (s:Bool) (y:Int) (B:Option Addr) (k' c' :Nat) (t:Bool):xE #[.int .i64 x,.slice A k c,.bool s,.int .i64 y,.slice B k' c',.bool t]:=by
 intro i d h
 match i with
 | 0=>simp at h
 | 1=>simp at h
 | 2=>simp at h
 | 3=>simp at h
 | 4=>simp at h
 | 5=>simp at h
 | n+6=>simp at h
section
variable {W w:World} {g:Nat} {t' :TypeId} {x x0 y y0 z:Int} {A A0 B B0:Option Addr} {k c k' c' k0 c0 k1 c1:Nat} {s s0 t t0:Bool} {v:Value}
theorem yj (hk:Blk W g t' #[.int .i64 x0,.slice A0 k0 c0,.bool s0,.int .i64 y0,.slice B0 k1 c1,.bool t0]):
 Blk (World.rat W g x A k c s y B k' c' t) g t' #[.int .i64 x,.slice A k c,.bool s,.int .i64 y,.slice B k' c',.bool t]:=(((((hk.set_ 0 _).set_ 1 _).set_ 2 _).set_ 3 _).set_ 4 _).set_ 5 _
theorem yl (hv:zE W v z) (hk:Blk W g t' #[.int .i64 x0,.slice A0 k0 c0,.bool s0,.int .i64 y0,.slice B0 k1 c1,.bool t0]):zE (World.rat W g x A k c s y B k' c' t) v z:=by
 refine hv.stored hk (X1 _ _ _ _ _ _ _ _ _ _) ?_ (by simp [World.rat,World.setCell])
 intro p hp
 simp only [World.rat]
 rw [World.cell?_setCell_other,World.cell?_setCell_other,World.cell?_setCell_other,World.cell?_setCell_other,World.cell?_setCell_other,World.cell?_setCell_other]
 all_goals (intro e;subst e;exact hp rfl)
theorem zT (h:Below w.heap.size w W) (hg:w.heap.size<=g):Below w.heap.size w (World.rat W g x A k c s y B k' c' t):=
 (((((h.setCell hg _).setCell hg _).setCell hg _).setCell hg _).setCell hg _).setCell hg _
theorem YS {g' :Nat} {cs:Array Value} (hk:Blk W g t' cs) (hne:g≠g'):Blk (World.rat W g' x A k c s y B k' c' t) g t' cs:=
 (((((hk.far hne _).far hne _).far hne _).far hne _).far hne _).far hne _
end
theorem ZV {zn zd:Int} (h:0<zd) (hl:len 4294967296 zd.natAbs<=33554432):
 (Rat.divInt zn zd).num=zn.tdiv ((Nat.gcd zn.natAbs zd.natAbs:Nat):Int)/\((Rat.divInt zn zd).den:Int)=zd.tdiv ((Nat.gcd zn.natAbs zd.natAbs:Nat):Int)/\0<Nat.gcd zn.natAbs zd.natAbs/\len 4294967296 (Nat.gcd zn.natAbs zd.natAbs)<=33554432:=by
 obtain ⟨m,rfl⟩:=Int.eq_ofNat_of_zero_le (Int.le_of_lt h)
 have hm:0<m:=by omega
 obtain ⟨P1,P2⟩:=Xe zn m hm
 refine ⟨P1,?_,Nat.gcd_pos_of_pos_right _ hm,Nat.le_trans (Zb (by omega) (Nat.gcd_le_right _ hm)) hl⟩
 rw [P2,Int.tdiv_eq_ediv_of_nonneg (by omega)]
 rfl
theorem zlo {w1 w2 w3 w4 w5:World} {g:Nat} {t:TypeId} {cs:Array Value} (h:Blk w1 g t cs) (h1:Below w1.heap.size w1 w2) (h2:Below w2.heap.size w2 w3) (h3:Below w3.heap.size w3 w4) (h4:Below w4.heap.size w4 w5):Blk w5 g t cs:=
 h.below (ext (ext (ext h1 h2) h3) h4) h.lt
set_option maxRecDepth 100000 in
set_option maxHeartbeats 8000000 in
theorem vZ (va vb:Value) (z y:Int) (w:World) (ha:zE w va z) (hb:zE w vb y) (hy:y≠0) (hla:len 4294967296 z.natAbs<=33554432) (hlb:len 4294967296 y.natAbs<=33554432):
 Calls Tryz.prog 128 #[va,vb] w (zbw w (Rat.divInt z y)):=by
 have ha' :=ha
 have hb' :=hb
 obtain ⟨x1,A,k,c,s,rfl,h1,h2,hA⟩:=ha'.form
 obtain ⟨y1,B,k',c',t,rfl,h3,h4,hB⟩:=hb'.form
 have HLN:=ze hlb
 have HLM:=ze hla
 have hW:=ext (ext (zh w (.cells #[.int .i64 x1,.slice A k c,.bool s] 91)) (zh _ (.cells #[.int .i64 y1,.slice B k' c',.bool t] 91))) (zh _ (.cells #[.int .i64 0,.slice none 0 0,.bool false,.int .i64 0,.slice none 0 0,.bool false] 93))
 have kA:=((Blk.new w 91 #[.int .i64 x1,.slice A k c,.bool s]).alloc (.cells #[.int .i64 y1,.slice B k' c',.bool t] 91)).alloc (.cells #[.int .i64 0,.slice none 0 0,.bool false,.int .i64 0,.slice none 0 0,.bool false] 93)
 have kB:=(Blk.new (w.alloc (.cells #[.int .i64 x1,.slice A k c,.bool s] 91)) 91 #[.int .i64 y1,.slice B k' c',.bool t]).alloc (.cells #[.int .i64 0,.slice none 0 0,.bool false,.int .i64 0,.slice none 0 0,.bool false] 93)
 have kC:=Blk.new ((w.alloc (.cells #[.int .i64 x1,.slice A k c,.bool s] 91)).alloc (.cells #[.int .i64 y1,.slice B k' c',.bool t] 91)) 93 #[.int .i64 0,.slice none 0 0,.bool false,.int .i64 0,.slice none 0 0,.bool false]
 simp only [World.size_alloc] at kB kC
 have HAW:=ze (ha.below hW)
 have HBW:=ze (hb.below hW)
 have HW:=ze hW
 have HkA:=ze kA
 have HkB:=ze kB
 have HkC:=ze kC
 clear hla hlb hW kA kB kC hA hB ha hb ha' hb' h1 h2 h3 h4
 go_enter Tryz.func128,Tryz.ntmps128
 go_upto_if 14 with (first | (go_at_call 108;refine (Z0 _ y _ HBW.out).mono ?_;rintro e w1 ⟨rfl,hb1⟩))
 have kA:=HkA.out.below hb1 HkA.out.lt
 have kB:=HkB.out.below hb1 HkB.out.lt
 have kC:=HkC.out.below hb1 HkC.out.lt
 have hA:=HAW.out.below hb1
 have hB:=HBW.out.below hb1
 have hW1:=ext HW.out hb1
 clear HkA HkB HkC HAW HBW HW hb1
 go_cut [] (fun wx=>zfd w (Rat.divInt z y) wx)
 case first=>
  rcases (show y<0\/(¬ y<0/\0<y) by omega) with hy0 | ⟨hy0,hy1⟩
  . have hc:zN y 0= -1:=by unfold zN;rw [if_pos hy0]
    rw [hc];have a0:=kA.cell 0;have a1:=kA.cell 1;have a2:=kA.cell 2;have b0:=kB.cell 0;have b1:=kB.cell 1;have b2:=kB.cell 2;simp at a0 a1 a2 b0 b1 b2;have HkA:=ze (kA.drewN 1);have HkB:=ze (kB.drewN 1);have HkC:=ze (kC.drewN 1);have HAW:=ze (hA.below (ym w1 1));have HBW:=ze (hB.below (ym w1 1));have HW1:=ze (zr hW1 1);clear kA kB kC hA hB hW1;go_wp2_with fail
    go_region_with (first
     | (go_at_call_of 161 (Value.agg #[.int .i64 x1,.slice A k c,.bool s]);refine (yz _ z _ (by first | exact HAW.out | exact HAW.out.below hb3)).mono ?_;rintro e w2 ⟨v,rfl,hv2,hb2⟩;obtain ⟨x2,A2,k2,c2,s2,rfl,_,_,_⟩:=hv2.form;have kA2:Blk w2 w.heap.size _ _:=(by first | exact HkA.out.below hb2 HkA.out.lt | exact kA3.below hb2 kA3.lt);have kB2:Blk w2 (w.heap.size+1) _ _:=(by first | exact HkB.out.below hb2 HkB.out.lt | exact kB3.below hb2 kB3.lt);have kC2:Blk w2 (w.heap.size+1+1) _ _:=(by first | exact HkC.out.below hb2 HkC.out.lt | exact kC3.below hb2 kC3.lt);have a20:=kA2.cell 0;have a2f0:=kA2.frozen 0;have a21:=kA2.cell 1;have a2f1:=kA2.frozen 1;have a22:=kA2.cell 2;have a2f2:=kA2.frozen 2;have b20:=kB2.cell 0;have b2f0:=kB2.frozen 0;have b21:=kB2.cell 1;have b2f1:=kB2.frozen 1;have b22:=kB2.cell 2;have b2f2:=kB2.frozen 2;simp at a20 a21 a22 b20 b21 b22)
     | (go_at_call_of 161 (Value.agg #[.int .i64 y1,.slice B k' c',.bool t]);refine (yz _ y _ (by first | exact HBW.out | exact HBW.out.below hb2)).mono ?_;rintro e w3 ⟨v,rfl,hv3,hb3⟩;obtain ⟨x3,A3,k3,c3,s3,rfl,_,_,_⟩:=hv3.form;have kA3:Blk w3 w.heap.size _ _:=(by first | exact HkA.out.below hb3 HkA.out.lt | exact kA2.below hb3 kA2.lt);have kB3:Blk w3 (w.heap.size+1) _ _:=(by first | exact HkB.out.below hb3 HkB.out.lt | exact kB2.below hb3 kB2.lt);have kC3:Blk w3 (w.heap.size+1+1) _ _:=(by first | exact HkC.out.below hb3 HkC.out.lt | exact kC2.below hb3 kC2.lt);have a30:=kA3.cell 0;have a3f0:=kA3.frozen 0;have a31:=kA3.cell 1;have a3f1:=kA3.frozen 1;have a32:=kA3.cell 2;have a3f2:=kA3.frozen 2;have b30:=kB3.cell 0;have b3f0:=kB3.frozen 0;have b31:=kB3.cell 1;have b3f1:=kB3.frozen 1;have b32:=kB3.cell 2;have b3f2:=kB3.frozen 2;simp at a30 a31 a32 b30 b31 b32))
    all_goals
     go_wp2;go_meet
     case rel=>
      first
       | exact zfd.negs (hv2.below hb3) hv3 kA3 kB3 kC3 (ext (ext HW1.out hb2) hb3) hy0 HLM.out HLN.out
       | exact zfd.negs hv2 (hv3.below hb2) kA2 kB2 kC2 (ext (ext HW1.out hb3) hb2) hy0 HLM.out HLN.out
  . have hc:zN y 0=1:=by unfold zN;rw [if_neg hy0,if_pos hy1]
    rw [hc];go_wp2;go_meet
    case rel=>exact ⟨_,_,_,_,_,_,_,_,_,_,_,_,hA,hB,kA,kB,kC,hW1,hy1,rfl,HLM,HLN⟩
 case rest=>
  obtain ⟨x2,A2,k2,c2,s2,y2,B2,k3,c3,t2,zn,zd,hA,hB,kA,kB,kC,hW,hzd,HQ,HLN,HLM⟩:=hcut
  clear hy
  have q1:=fun w=>zfc w A2 k2 c2 0 0
  have q2:=fun w=>zfc w B2 k3 c3 0 0
  have a0:=kA.cell 0
  have a1:=kA.cell 1
  have a2:=kA.cell 2
  have b0:=kB.cell 0
  have b1:=kB.cell 1
  have b2:=kB.cell 2
  simp at a0 a1 a2 b0 b1 b2
  by_cases hf:A2=none/\B2=none
  . obtain ⟨rfl,rfl⟩:=hf
    obtain ⟨rfl,rfl,rfl,h1,h2⟩:=hA.small;obtain ⟨rfl,rfl,rfl,h3,h4⟩:=hB.small;have hsz:=fun w=>ZT zn (.slice none 0 0) s2 w h1 h2
    have HB:=ze (And.intro h1 (And.intro h2 h4));obtain ⟨m,rfl⟩:=Int.eq_ofNat_of_zero_le (Int.le_of_lt hzd);have hm0:0<m:=by omega
    have hm1:(m:Int)<4611686018427387904:=h4;have hwm:IntKind.u64.wrap (m:Int)=(m:Int):=by rw [IntKind.wrap_u64];omega
    clear h1 h2 h3 h4 hzd;go_wp2_with fail
    go_region_held3 (fun w' =>w'.cell? ⟨w.heap.size,0,none⟩=some (.int .i64 zn)/\w'.cell? ⟨w.heap.size,1,none⟩=some (.slice none 0 0)/\w'.cell? ⟨w.heap.size,2,none⟩=some (.bool s2)/\w'.cell? ⟨w.heap.size+1,0,none⟩=some (.int .i64 m)/\
     w.heap.size<w'.heap.size/\w.heap.size+1<w'.heap.size/\Hid (Blk w' (w.heap.size+1+1) 93 #[.int .i64 0,.slice none 0 0,.bool false,.int .i64 0,.slice none 0 0,.bool false])/\Hid (Below w.heap.size w w'))
     (first
       | exact ⟨by go_keep,by go_keep,by go_keep,by go_keep,(kA.drewN 1).lt,(kB.drewN 1).lt,ze (kC.drewN 1),ze (zr hW 1)⟩
       | go_keep
       | (go_split_ands;exact ⟨zi ‹_› ‹_› ‹_›,zi ‹_› ‹_› ‹_›,zi ‹_› ‹_› ‹_›,zi ‹_› ‹_› ‹_›,zU ‹_› ‹_›,zU ‹_› ‹_›,xZ ‹_› ‹_›,zp ‹_› ‹_›⟩))
     (first
       | (refine (hsz _).mono ?_;rintro e w4 ⟨rfl,hb4⟩))
    go_split_ands;have kC4:=zS (by assumption:Hid (Blk w4 (w.heap.size+1+1) _ _));have hW4:=zS (by assumption:Hid (Below w.heap.size w w4));have c0:=kC4.cell 0;have c1:=kC4.cell 1;have c2:=kC4.cell 2;have c3:=kC4.cell 3;have c4:=kC4.cell 4;have c5:=kC4.cell 5;have f0:=kC4.frozen 0;have f1:=kC4.frozen 1;have f2:=kC4.frozen 2;have f3:=kC4.frozen 3;have f4:=kC4.frozen 4;have f5:=kC4.frozen 5;simp at c0 c1 c2 c3 c4 c5;clear kA kB kC hW hb4 hA hB;go_wp2_with fail
    go_loopw [5,6] (EucR zn.natAbs m w4) (fun _ bv _=>(intOf bv).toNat)
    case atStart=>exact ⟨zn.natAbs,m,0,rfl,rfl,rfl,by have:=HB.out;omega,by omega,rfl⟩
    case round=>
     obtain ⟨a,b,nq,rfl,rfl,rfl,ha,hb,HG⟩:=hrel;have kC5:=kC4.drewN nq
     by_cases hb0:b=0
     . subst hb0
       have hg:a=Nat.gcd zn.natAbs m:=by have:=HG.out;rwa [Nat.gcd_zero_right] at this
       have ha0:0<a:=by rw [hg];exact Nat.gcd_pos_of_pos_right _ hm0
       obtain ⟨P1,P2⟩:=Xe zn m hm0;rw [<- hg] at P1 P2;rw [HQ.out] at P1 P2;have HP1:=ze P1;have HP2:=ze P2;clear P1 P2 hg HG;obtain ⟨t1,t2⟩:=Vk (y:=(a:Int)) HB.out.1 HB.out.2.1;have t3:0<=(m:Int) / (a:Int):=Int.ediv_nonneg (by omega) (by omega);have t4:(m:Int) / (a:Int)<4611686018427387904:=by have:=Int.ediv_le_self (a:=(m:Int)) (a:Int) (by omega);omega
       have hane:((a:Int) == 0)=false:=beq_eq_false_iff_ne.2 (by omega);have hane' :¬ (a:Int)=0:=by omega
       have ha00:¬ a=0:=by omega
       have hne1:¬ w.heap.size=w.heap.size+1+1:=by omega
       have hne2:¬ w.heap.size+1+1=w.heap.size:=by omega
       have w1:IntKind.i64.wrap (a:Int)=(a:Int):=IntWalk.i64_in _ (by omega);have w2:IntKind.i64.wrap (zn.tdiv a)=zn.tdiv a:=IntWalk.i64_in _ (by omega);have w3:IntKind.i64.wrap ((m:Int) / a)=(m:Int) / a:=IntWalk.i64_in _ (by omega);go_wp2_with fail
       go_region_held3 (fun w' =>w'.cell? ⟨w.heap.size,0,none⟩=some (.int .i64 zn)/\w'.cell? ⟨w.heap.size+1,0,none⟩=some (.int .i64 m)) (go_keep) (fail)
       go_wp2;have kD:=((((((kC4.drewN (nq+1)).set_ 0 (.int .i64 (zn.tdiv a))).set_ 1 (.slice none 0 0)).set_ 2 (.bool false)).set_ 3 (.int .i64 ((m:Int) / a))).set_ 4 (.slice none 0 0)).set_ 5 (.bool false);have d0:=kD.cell 0;have d1:=kD.cell 1;have d2:=kD.cell 2;have d3:=kD.cell 3;have d4:=kD.cell 4;have d5:=kD.cell 5;simp at d0 d1 d2 d3 d4 d5;refine bodyPost_ret (v:=.agg #[.int .i64 (zn.tdiv a),.slice none 0 0,.bool false,.int .i64 ((m:Int) / a),.slice none 0 0,.bool false]) (by simp [results,Tryz.results128,go_sem,d0,d1,d2,d3,d4,d5]) rfl ?_;refine ⟨_,rfl,⟨_,_,_,_,_,_,_,_,_,_,rfl,.inl ⟨_,_,rfl,t1,t2,HP1.out⟩,.inl ⟨_,_,rfl,by omega,t4,HP2.out⟩⟩,?_⟩;exact ((((((zr hW4 (nq+1)).setCell (by simp;omega) _).setCell (by simp;omega) _).setCell (by simp;omega) _).setCell (by simp;omega) _).setCell (by simp;omega) _).setCell (by simp;omega) _
     . have HA1:=ze ha
       have HB1:=ze hb;clear ha hb HB hm1;have hbne:((b:Int) == 0)=false:=beq_eq_false_iff_ne.2 (by omega);have hbne' :¬ (b:Int)=0:=by omega
       go_wp2_with fail
       go_quiet (fail)
       go_wp2;go_roundw
       case rel=>
        refine ⟨b,a % b,_,World.drewN_drewN _ _ _,rfl,?_,HB1.out,?_,?_⟩
        . go_num
        . have:=Nat.mod_lt a (Nat.pos_of_ne_zero hb0);have:=HB1.out;omega
        . show _=_
          rw [Nat.gcd_comm, <- Nat.gcd_rec,Nat.gcd_comm];exact HG.out
       case measure=>
        have:=Nat.mod_lt a (Nat.pos_of_ne_zero hb0)
        simp [intOf]<;>omega
  . rcases A2 with _ | ad
    . obtain ⟨bd,rfl⟩:∃ bd,B2=some bd:=by
       rcases B2 with _ | bd
       . exact absurd ⟨rfl,rfl⟩ hf
       . exact ⟨bd,rfl⟩
      clear hf;have HA:=ze hA;have HB:=ze hB;have HkA:=ze kA;have HkB:=ze kB;have HkC:=ze kC;have HW:=ze hW;obtain ⟨P1,P2,hG1,hG2⟩:=ZV hzd HLM.out;rw [HQ.out] at P1 P2;obtain ⟨G,hG⟩:∃ G,G=Nat.gcd zn.natAbs zd.natAbs:=⟨_,rfl⟩;rw [<- hG] at P1 P2 hG1 hG2;have HP1:=ze P1;have HP2:=ze P2;have HG1:=ze hG1;have HG2:=ze hG2;have HG:=ze hG;clear hA hB kA kB kC hW hzd P1 P2 hG1 hG2 hG;go_wp2_with fail;refine (xS _ zn _ HA.out).mono ?_;rintro e w5 ⟨p,rfl,hp,hb5⟩;have kB5:=HkB.out.below hb5 HkB.out.lt;have b0:=kB5.cell 0;have b1:=kB5.cell 1;have b2:=kB5.cell 2;simp at b0 b1 b2;go_wp2_with fail;refine (xS _ zd _ (HB.out.below hb5)).mono ?_;rintro e w6 ⟨p',rfl,hp',hb6⟩;have hp2:=hp.below hb6;clear b0 b1 b2 a0 a1 a2;go_wp2_with fail;refine (zf1 p p' _ _ w6 hp2 hp' HLN.out HLM.out).mono ?_;rintro e w7 ⟨q,rfl,hq,hb7⟩;rw [<- HG.out] at hq;go_wp2_with fail;refine (zM false q _ w7 hq).mono ?_;rintro e w8 ⟨v,rfl,hv,hb8⟩;obtain ⟨x',A',k4,c4,ng',rfl,_,_,_⟩:=hv.form;have hW8:=ext (ext (ext (ext HW.out hb5) hb6) hb7) hb8;have hA8:=(((HA.out.below hb5).below hb6).below hb7).below hb8
      have hB8:=(((HB.out.below hb5).below hb6).below hb7).below hb8;have kA8:=zlo HkA.out hb5 hb6 hb7 hb8;have kB8:=zlo HkB.out hb5 hb6 hb7 hb8;have kC8:=zlo HkC.out hb5 hb6 hb7 hb8;have HW8:=ze hW8;have HA8:=ze hA8;have HB8:=ze hB8;have HV8:=ze (show zE w8 _ ((G:Nat):Int) from hv);have a0:=kA8.cell 0;have a1:=kA8.cell 1;have a2:=kA8.cell 2;have l1:=kA8.lt;have l2:=kB8.lt;have l3:=kC8.lt;simp at a0 a1 a2;have HkA8:=ze kA8;have HkB8:=ze kB8;have HkC8:=ze kC8;clear hb5 hb6 hb7 hb8 hW8 hA8 hB8 hv hq hp hp' hp2 HW HA HB HkA HkB HkC kB5 q1 q2 kA8 kB8 kC8;go_wp2_with fail;have hb9:=zh w8 (.cells #[.int .i64 x',.slice A' k4 c4,.bool ng'] 91);have hA9:=HA8.out.below hb9;have hB9:=HB8.out.below hb9;have hV9:=HV8.out.below hb9;have kA9:=HkA8.out.below hb9 l1;have kB9:=HkB8.out.below hb9 l2;have kC9:=HkC8.out.below hb9 l3;have kG9:=Blk.new w8 91 #[.int .i64 x',.slice A' k4 c4,.bool ng'];have hW9:=ext HW8.out hb9;generalize hgg:w8.heap.size=gg at kG9 |-;have lgg:w.heap.size+1+1<gg:=by omega
      generalize w8.alloc (.cells #[.int .i64 x',.slice A' k4 c4,.bool ng'] 91)=w9 at hA9 hB9 hV9 kA9 kB9 kC9 kG9 hW9 |-;clear hb9 HA8 HB8 HV8 HkA8 HkB8 HkC8 HW8 a0 a1 a2 l1 l2 l3 hgg;have hg0:((G:Nat):Int)≠0:=by have:=HG1.out;omega
      refine (YZ _ _ zn G w9 hA9 hV9 hg0 HLN.out HG2.out).mono ?_;rintro e w10 ⟨v1,v2,rfl,hv1,hv2,hb10⟩;obtain ⟨x5,A5,k5,c5,n5,rfl,_,_,_⟩:=hv1.form;have kA10:=kA9.below hb10 kA9.lt;have a0:=kA10.cell 0;have a1:=kA10.cell 1;have a2:=kA10.cell 2;have f0:=kA10.frozen 0;have f1:=kA10.frozen 1;have f2:=kA10.frozen 2;simp at a0 a1 a2;have kB10:=xk (g' :=w.heap.size) (x:=x5) (A:=A5) (k:=k5) (c:=c5) (ng:=n5) (kB9.below hb10 kB9.lt) (by omega);have kC10:=xk (g' :=w.heap.size) (x:=x5) (A:=A5) (k:=k5) (c:=c5) (ng:=n5) (kC9.below hb10 kC9.lt) (by omega);have kG10:=xk (g' :=w.heap.size) (x:=x5) (A:=A5) (k:=k5) (c:=c5) (ng:=n5) (kG9.below hb10 kG9.lt) (by omega);have kA11:=zQ (x:=x5) (A:=A5) (k:=k5) (c:=c5) (ng:=n5) kA10;have hQ1:=zt (x:=x5) (A:=A5) (k:=k5) (c:=c5) (ng:=n5) hv1 kA10;have hB10:=zt (x:=x5) (A:=A5) (k:=k5) (c:=c5) (ng:=n5) (hB9.below hb10) kA10;have hV10:=zt (x:=x5) (A:=A5) (k:=k5) (c:=c5) (ng:=n5) (hV9.below hb10) kA10;have hW10:=zz (x:=x5) (A:=A5) (k:=k5) (c:=c5) (ng:=n5) (ext hW9 hb10) (Nat.le_refl _);have d0:=kB10.cell 0
      have d1:=kB10.cell 1;have d2:=kB10.cell 2;have g0:=kG10.cell 0;have g1:=kG10.cell 1;have g2:=kG10.cell 2;simp at d0 d1 d2 g0 g1 g2;have HkA11:=ze kA11;have HkB10:=ze kB10;have HkC10:=ze kC10;have HQ1:=ze hQ1;have HB10:=ze hB10;have HV10:=ze hV10;have HW10:=ze hW10;clear kA9 kB9 kC9 kG9 hA9 hB9 hV9 hW9 hb10 hv1 hv2 kA10 kB10 kC10 kG10 kA11 hQ1 hB10 hV10 hW10;simp only [World.num] at HkA11 HkB10 HkC10 HQ1 HB10 HV10 HW10 d0 d1 d2 g0 g1 g2;go_wp2_with fail;generalize ((w10.setCell { block:=w.heap.size,off:=0 } (.int .i64 x5)).setCell { block:=w.heap.size,off:=1 } (.slice A5 k5 c5)).setCell { block:=w.heap.size,off:=2 } (.bool n5)=w11 at HkA11 HkB10 HkC10 HQ1 HB10 HV10 HW10 d0 d1 d2 g0 g1 g2 |-;clear a0 a1 a2 f0 f1 f2;refine (YZ _ _ zd G w11 HB10.out HV10.out hg0 HLM.out HG2.out).mono ?_;rintro e w12 ⟨v1,v2,rfl,hv1,hv2,hb12⟩;obtain ⟨x6,A6,k6,c6,n6,rfl,_,_,_⟩:=hv1.form;have kB12:=HkB10.out.below hb12 HkB10.out.lt;have a0:=kB12.cell 0;have a1:=kB12.cell 1;have a2:=kB12.cell 2;have f0:=kB12.frozen 0;have f1:=kB12.frozen 1;have f2:=kB12.frozen 2;simp at a0 a1 a2
      have kA12:=xk (g' :=w.heap.size+1) (x:=x6) (A:=A6) (k:=k6) (c:=c6) (ng:=n6) (HkA11.out.below hb12 HkA11.out.lt) (by omega);have kC12:=xk (g' :=w.heap.size+1) (x:=x6) (A:=A6) (k:=k6) (c:=c6) (ng:=n6) (HkC10.out.below hb12 HkC10.out.lt) (by omega);have kB13:=zQ (x:=x6) (A:=A6) (k:=k6) (c:=c6) (ng:=n6) kB12;have hQ2:=zt (x:=x6) (A:=A6) (k:=k6) (c:=c6) (ng:=n6) hv1 kB12;have hQ1:=zt (x:=x6) (A:=A6) (k:=k6) (c:=c6) (ng:=n6) (HQ1.out.below hb12) kB12;have hW12:=zz (g:=w.heap.size+1) (x:=x6) (A:=A6) (k:=k6) (c:=c6) (ng:=n6) (ext HW10.out hb12) (by omega);have HQ1' :=ze hQ1;have HQ2' :=ze hQ2;have HW12:=ze hW12;have HkA12:=ze kA12;have HkB13:=ze kB13;have HkC12:=ze kC12;clear hb12 hv1 hv2 kB12 kA12 kC12 kB13 hQ1 hQ2 hW12 HkA11 HkB10 HkC10 HQ1 HB10 HV10 HW10 d0 d1 d2 g0 g1 g2;have d0:=HkA12.out.cell 0;have d1:=HkA12.out.cell 1;have d2:=HkA12.out.cell 2;have g0:=HkB13.out.cell 0;have g1:=HkB13.out.cell 1;have g2:=HkB13.out.cell 2;have h0:=HkC12.out.cell 0;have h1:=HkC12.out.cell 1;have h2:=HkC12.out.cell 2;have h3:=HkC12.out.cell 3
      have h4:=HkC12.out.cell 4;have h5:=HkC12.out.cell 5;have j0:=HkC12.out.frozen 0;have j1:=HkC12.out.frozen 1;have j2:=HkC12.out.frozen 2;have j3:=HkC12.out.frozen 3;have j4:=HkC12.out.frozen 4;have j5:=HkC12.out.frozen 5;simp at d0 d1 d2 g0 g1 g2 h0 h1 h2 h3 h4 h5;go_wp2_with fail;have kR:=yj (x:=x5) (A:=A5) (k:=k5) (c:=c5) (s:=n5) (y:=x6) (B:=A6) (k' :=k6) (c' :=c6) (t:=n6) HkC12.out;have hR1:=yl (x:=x5) (A:=A5) (k:=k5) (c:=c5) (s:=n5) (y:=x6) (B:=A6) (k' :=k6) (c' :=c6) (t:=n6) HQ1'.out HkC12.out;have hR2:=yl (x:=x5) (A:=A5) (k:=k5) (c:=c5) (s:=n5) (y:=x6) (B:=A6) (k' :=k6) (c' :=c6) (t:=n6) HQ2'.out HkC12.out;have hRW:=zT (g:=w.heap.size+1+1) (x:=x5) (A:=A5) (k:=k5) (c:=c5) (s:=n5) (y:=x6) (B:=A6) (k' :=k6) (c' :=c6) (t:=n6) HW12.out (by omega);have e0:=kR.cell 0;have e1:=kR.cell 1;have e2:=kR.cell 2;have e3:=kR.cell 3;have e4:=kR.cell 4;have e5:=kR.cell 5;simp only [World.rat,World.num] at e0 e1 e2 e3 e4 e5;simp at e0 e1 e2 e3 e4 e5
      refine bodyPost_ret (v:=.agg #[.int .i64 x5,.slice A5 k5 c5,.bool n5,.int .i64 x6,.slice A6 k6 c6,.bool n6]) (by simp [results,Tryz.results128,go_sem,e0,e1,e2,e3,e4,e5]) rfl ?_;refine ⟨_,rfl,⟨_,_,_,_,_,_,_,_,_,_,rfl,?_,?_⟩,hRW⟩
      . rw [HP1.out];exact hR1
      . rw [HP2.out];exact hR2
    . clear hf
      have HA:=ze hA;have HB:=ze hB;have HkA:=ze kA;have HkB:=ze kB;have HkC:=ze kC;have HW:=ze hW;obtain ⟨P1,P2,hG1,hG2⟩:=ZV hzd HLM.out;rw [HQ.out] at P1 P2;obtain ⟨G,hG⟩:∃ G,G=Nat.gcd zn.natAbs zd.natAbs:=⟨_,rfl⟩;rw [<- hG] at P1 P2 hG1 hG2;have HP1:=ze P1;have HP2:=ze P2;have HG1:=ze hG1;have HG2:=ze hG2;have HG:=ze hG;clear hA hB kA kB kC hW hzd P1 P2 hG1 hG2 hG;go_wp2_with fail;refine (xS _ zn _ HA.out).mono ?_;rintro e w5 ⟨p,rfl,hp,hb5⟩;have kB5:=HkB.out.below hb5 HkB.out.lt;have b0:=kB5.cell 0;have b1:=kB5.cell 1;have b2:=kB5.cell 2;simp at b0 b1 b2;go_wp2_with fail;refine (xS _ zd _ (HB.out.below hb5)).mono ?_;rintro e w6 ⟨p',rfl,hp',hb6⟩;have hp2:=hp.below hb6;clear b0 b1 b2 a0 a1 a2;go_wp2_with fail;refine (zf1 p p' _ _ w6 hp2 hp' HLN.out HLM.out).mono ?_;rintro e w7 ⟨q,rfl,hq,hb7⟩;rw [<- HG.out] at hq;go_wp2_with fail;refine (zM false q _ w7 hq).mono ?_;rintro e w8 ⟨v,rfl,hv,hb8⟩;obtain ⟨x',A',k4,c4,ng',rfl,_,_,_⟩:=hv.form;have hW8:=ext (ext (ext (ext HW.out hb5) hb6) hb7) hb8;have hA8:=(((HA.out.below hb5).below hb6).below hb7).below hb8
      have hB8:=(((HB.out.below hb5).below hb6).below hb7).below hb8;have kA8:=zlo HkA.out hb5 hb6 hb7 hb8;have kB8:=zlo HkB.out hb5 hb6 hb7 hb8;have kC8:=zlo HkC.out hb5 hb6 hb7 hb8;have HW8:=ze hW8;have HA8:=ze hA8;have HB8:=ze hB8;have HV8:=ze (show zE w8 _ ((G:Nat):Int) from hv);have a0:=kA8.cell 0;have a1:=kA8.cell 1;have a2:=kA8.cell 2;have l1:=kA8.lt;have l2:=kB8.lt;have l3:=kC8.lt;simp at a0 a1 a2;have HkA8:=ze kA8;have HkB8:=ze kB8;have HkC8:=ze kC8;clear hb5 hb6 hb7 hb8 hW8 hA8 hB8 hv hq hp hp' hp2 HW HA HB HkA HkB HkC kB5 q1 q2 kA8 kB8 kC8;go_wp2_with fail;have hb9:=zh w8 (.cells #[.int .i64 x',.slice A' k4 c4,.bool ng'] 91);have hA9:=HA8.out.below hb9;have hB9:=HB8.out.below hb9;have hV9:=HV8.out.below hb9;have kA9:=HkA8.out.below hb9 l1;have kB9:=HkB8.out.below hb9 l2;have kC9:=HkC8.out.below hb9 l3;have kG9:=Blk.new w8 91 #[.int .i64 x',.slice A' k4 c4,.bool ng'];have hW9:=ext HW8.out hb9;generalize hgg:w8.heap.size=gg at kG9 |-;have lgg:w.heap.size+1+1<gg:=by omega
      generalize w8.alloc (.cells #[.int .i64 x',.slice A' k4 c4,.bool ng'] 91)=w9 at hA9 hB9 hV9 kA9 kB9 kC9 kG9 hW9 |-;clear hb9 HA8 HB8 HV8 HkA8 HkB8 HkC8 HW8 a0 a1 a2 l1 l2 l3 hgg;have hg0:((G:Nat):Int)≠0:=by have:=HG1.out;omega
      refine (YZ _ _ zn G w9 hA9 hV9 hg0 HLN.out HG2.out).mono ?_;rintro e w10 ⟨v1,v2,rfl,hv1,hv2,hb10⟩;obtain ⟨x5,A5,k5,c5,n5,rfl,_,_,_⟩:=hv1.form;have kA10:=kA9.below hb10 kA9.lt;have a0:=kA10.cell 0;have a1:=kA10.cell 1;have a2:=kA10.cell 2;have f0:=kA10.frozen 0;have f1:=kA10.frozen 1;have f2:=kA10.frozen 2;simp at a0 a1 a2;have kB10:=xk (g' :=w.heap.size) (x:=x5) (A:=A5) (k:=k5) (c:=c5) (ng:=n5) (kB9.below hb10 kB9.lt) (by omega);have kC10:=xk (g' :=w.heap.size) (x:=x5) (A:=A5) (k:=k5) (c:=c5) (ng:=n5) (kC9.below hb10 kC9.lt) (by omega);have kG10:=xk (g' :=w.heap.size) (x:=x5) (A:=A5) (k:=k5) (c:=c5) (ng:=n5) (kG9.below hb10 kG9.lt) (by omega);have kA11:=zQ (x:=x5) (A:=A5) (k:=k5) (c:=c5) (ng:=n5) kA10;have hQ1:=zt (x:=x5) (A:=A5) (k:=k5) (c:=c5) (ng:=n5) hv1 kA10;have hB10:=zt (x:=x5) (A:=A5) (k:=k5) (c:=c5) (ng:=n5) (hB9.below hb10) kA10;have hV10:=zt (x:=x5) (A:=A5) (k:=k5) (c:=c5) (ng:=n5) (hV9.below hb10) kA10;have hW10:=zz (x:=x5) (A:=A5) (k:=k5) (c:=c5) (ng:=n5) (ext hW9 hb10) (Nat.le_refl _);have d0:=kB10.cell 0
      have d1:=kB10.cell 1;have d2:=kB10.cell 2;have g0:=kG10.cell 0;have g1:=kG10.cell 1;have g2:=kG10.cell 2;simp at d0 d1 d2 g0 g1 g2;have HkA11:=ze kA11;have HkB10:=ze kB10;have HkC10:=ze kC10;have HQ1:=ze hQ1;have HB10:=ze hB10;have HV10:=ze hV10;have HW10:=ze hW10;clear kA9 kB9 kC9 kG9 hA9 hB9 hV9 hW9 hb10 hv1 hv2 kA10 kB10 kC10 kG10 kA11 hQ1 hB10 hV10 hW10;simp only [World.num] at HkA11 HkB10 HkC10 HQ1 HB10 HV10 HW10 d0 d1 d2 g0 g1 g2;go_wp2_with fail;generalize ((w10.setCell { block:=w.heap.size,off:=0 } (.int .i64 x5)).setCell { block:=w.heap.size,off:=1 } (.slice A5 k5 c5)).setCell { block:=w.heap.size,off:=2 } (.bool n5)=w11 at HkA11 HkB10 HkC10 HQ1 HB10 HV10 HW10 d0 d1 d2 g0 g1 g2 |-;clear a0 a1 a2 f0 f1 f2;refine (YZ _ _ zd G w11 HB10.out HV10.out hg0 HLM.out HG2.out).mono ?_;rintro e w12 ⟨v1,v2,rfl,hv1,hv2,hb12⟩;obtain ⟨x6,A6,k6,c6,n6,rfl,_,_,_⟩:=hv1.form;have kB12:=HkB10.out.below hb12 HkB10.out.lt;have a0:=kB12.cell 0;have a1:=kB12.cell 1;have a2:=kB12.cell 2;have f0:=kB12.frozen 0;have f1:=kB12.frozen 1;have f2:=kB12.frozen 2;simp at a0 a1 a2
      have kA12:=xk (g' :=w.heap.size+1) (x:=x6) (A:=A6) (k:=k6) (c:=c6) (ng:=n6) (HkA11.out.below hb12 HkA11.out.lt) (by omega);have kC12:=xk (g' :=w.heap.size+1) (x:=x6) (A:=A6) (k:=k6) (c:=c6) (ng:=n6) (HkC10.out.below hb12 HkC10.out.lt) (by omega);have kB13:=zQ (x:=x6) (A:=A6) (k:=k6) (c:=c6) (ng:=n6) kB12;have hQ2:=zt (x:=x6) (A:=A6) (k:=k6) (c:=c6) (ng:=n6) hv1 kB12;have hQ1:=zt (x:=x6) (A:=A6) (k:=k6) (c:=c6) (ng:=n6) (HQ1.out.below hb12) kB12;have hW12:=zz (g:=w.heap.size+1) (x:=x6) (A:=A6) (k:=k6) (c:=c6) (ng:=n6) (ext HW10.out hb12) (by omega);have HQ1' :=ze hQ1;have HQ2' :=ze hQ2;have HW12:=ze hW12;have HkA12:=ze kA12;have HkB13:=ze kB13;have HkC12:=ze kC12;clear hb12 hv1 hv2 kB12 kA12 kC12 kB13 hQ1 hQ2 hW12 HkA11 HkB10 HkC10 HQ1 HB10 HV10 HW10 d0 d1 d2 g0 g1 g2;have d0:=HkA12.out.cell 0;have d1:=HkA12.out.cell 1;have d2:=HkA12.out.cell 2;have g0:=HkB13.out.cell 0;have g1:=HkB13.out.cell 1;have g2:=HkB13.out.cell 2;have h0:=HkC12.out.cell 0;have h1:=HkC12.out.cell 1;have h2:=HkC12.out.cell 2;have h3:=HkC12.out.cell 3
      have h4:=HkC12.out.cell 4;have h5:=HkC12.out.cell 5;have j0:=HkC12.out.frozen 0;have j1:=HkC12.out.frozen 1;have j2:=HkC12.out.frozen 2;have j3:=HkC12.out.frozen 3;have j4:=HkC12.out.frozen 4;have j5:=HkC12.out.frozen 5;simp at d0 d1 d2 g0 g1 g2 h0 h1 h2 h3 h4 h5;go_wp2_with fail;have kR:=yj (x:=x5) (A:=A5) (k:=k5) (c:=c5) (s:=n5) (y:=x6) (B:=A6) (k' :=k6) (c' :=c6) (t:=n6) HkC12.out;have hR1:=yl (x:=x5) (A:=A5) (k:=k5) (c:=c5) (s:=n5) (y:=x6) (B:=A6) (k' :=k6) (c' :=c6) (t:=n6) HQ1'.out HkC12.out;have hR2:=yl (x:=x5) (A:=A5) (k:=k5) (c:=c5) (s:=n5) (y:=x6) (B:=A6) (k' :=k6) (c' :=c6) (t:=n6) HQ2'.out HkC12.out;have hRW:=zT (g:=w.heap.size+1+1) (x:=x5) (A:=A5) (k:=k5) (c:=c5) (s:=n5) (y:=x6) (B:=A6) (k' :=k6) (c' :=c6) (t:=n6) HW12.out (by omega);have e0:=kR.cell 0;have e1:=kR.cell 1;have e2:=kR.cell 2;have e3:=kR.cell 3;have e4:=kR.cell 4;have e5:=kR.cell 5;simp only [World.rat,World.num] at e0 e1 e2 e3 e4 e5;simp at e0 e1 e2 e3 e4 e5
      refine bodyPost_ret (v:=.agg #[.int .i64 x5,.slice A5 k5 c5,.bool n5,.int .i64 x6,.slice A6 k6 c6,.bool n6]) (by simp [results,Tryz.results128,go_sem,e0,e1,e2,e3,e4,e5]) rfl ?_;refine ⟨_,rfl,⟨_,_,_,_,_,_,_,_,_,_,rfl,?_,?_⟩,hRW⟩
      . rw [HP1.out];exact hR1
      . rw [HP2.out];exact hR2
end Go.Proofs.YtkmcmmcencdcpaaGreatDoor
