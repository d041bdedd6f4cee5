/- Parts of the proof: memory, numbers, walks of the functions that are called. -/
import Derived.IntWalk
import Derived.Test.YtkmcmmcencdcpaaGreatDoorMt12
set_option linter.unusedVariables false
set_option linter.unusedSimpArgs false
set_option maxRecDepth 100000
set_option maxHeartbeats 32000000
namespace Go.Proofs.YtkmcmmcencdcpaaGreatDoor
open Go.RowKit Go.Deep
def yC (w:World) (v:Value) (q:Rat):Prop:=
 ∃ x A k c s y B k' c' t,v= .agg #[.int .i64 x,.slice A k c,.bool s,.int .i64 y,.slice B k' c',.bool t]/\zR w (.agg #[.int .i64 x,.slice A k c,.bool s]) q.num/\zR w (.agg #[.int .i64 y,.slice B k' c',.bool t]) (q.den:Int)
def zds (w:World) (q:Rat) (e:Ending) (w' :World):Prop:=∃ v,e= .returned v/\yC w' v q/\Below w.heap.size w w'
theorem yC.below {w w' :World} {v:Value} {q:Rat} (h:yC w v q) (hb:Below w.heap.size w w'):yC w' v q:=by
 obtain ⟨x,A,k,c,s,y,B,k',c',t,h1,h2,h3⟩:=h
 exact ⟨x,A,k,c,s,y,B,k',c',t,h1,h2.below hb,h3.below hb⟩
def zlg (w:World) (q:Rat) (wr:World):Prop:=
 ∃ x A k c s y B k' c' t zn zd,zR wr (.agg #[.int .i64 x,.slice A k c,.bool s]) zn/\zR wr (.agg #[.int .i64 y,.slice B k' c',.bool t]) zd/\
  Blk wr w.heap.size 91 #[.int .i64 x,.slice A k c,.bool s]/\Blk wr (w.heap.size+1) 91 #[.int .i64 y,.slice B k' c',.bool t]/\
  Blk wr (w.heap.size+1+1) 93 #[.int .i64 0,.slice none 0 0,.bool false,.int .i64 0,.slice none 0 0,.bool false]/\Below w.heap.size w wr/\0<zd/\Hid (Rat.divInt zn zd=q)/\Hid (len 4294967296 zn.natAbs<=33554432)/\Hid (len 4294967296 zd.natAbs<=33554432)
theorem zR.small {w:World} {x z:Int} {k c:Nat} {s:Bool} (h:zR w (.agg #[.int .i64 x,.slice none k c,.bool s]) z):k=0/\c=0/\z=x/\ -4611686018427387904<x/\x<4611686018427387904:=by
 obtain ⟨x',A,k',c',s',e,h1,h2,h3⟩:=h.form
 injection e with e
 have e0:=congrArg (fun a=>a.toList) e
 simp at e0
 obtain ⟨rfl,⟨rfl,rfl,rfl⟩,rfl⟩:=e0
 obtain ⟨r1,r2,r3⟩:=h3 rfl
 exact ⟨r1,r2,r3,h1,h2⟩
def EucR (x y:Nat) (w:World) (av bv:Value) (wr:World):Prop:=∃ a b nq:Nat,wr=w.drewN nq/\av= .int .u64 a/\bv= .int .u64 b/\a<4611686018427387904/\b<4611686018427387904/\Hid (Nat.gcd a b=Nat.gcd x y)
theorem VI (z:Int) (m:Nat) (hm:0<m):(Rat.divInt z m).num=z.tdiv ((Nat.gcd z.natAbs m:Nat):Int)/\((Rat.divInt z m).den:Int)=(m:Int) / ((Nat.gcd z.natAbs m:Nat):Int):=by
 have e:(m:Int).gcd z=Nat.gcd z.natAbs m:=by show Nat.gcd _ _=_;rw [Int.natAbs_natCast,Nat.gcd_comm]
 have hs:(m:Int).sign=1:=Int.sign_eq_one_of_pos (by omega)
 constructor
 . rw [Rat.num_divInt,e,hs,Int.one_mul,Int.tdiv_eq_ediv_of_dvd]
   exact Int.ofNat_dvd_left.2 (Nat.gcd_dvd_left _ _)
 . rw [Rat.den_divInt,if_neg (by omega),e,Int.natAbs_natCast]
   rfl
theorem zlg.negs {w W:World} {z y x2 x3 x0 y0:Int} {A2 A3 A0 B0:Option Addr} {k2 c2 k3 c3 k0 c0 k0' c0' :Nat} {s2 s3 s0 t0:Bool} (hA:zR W (.agg #[.int .i64 x2,.slice A2 k2 c2,.bool s2]) (-z)) (hB:zR W (.agg #[.int .i64 x3,.slice A3 k3 c3,.bool s3]) (-y))
 (kA:Blk W w.heap.size 91 #[.int .i64 x0,.slice A0 k0 c0,.bool s0]) (kB:Blk W (w.heap.size+1) 91 #[.int .i64 y0,.slice B0 k0' c0',.bool t0])
 (kC:Blk W (w.heap.size+1+1) 93 #[.int .i64 0,.slice none 0 0,.bool false,.int .i64 0,.slice none 0 0,.bool false]) (hW:Below w.heap.size w W) (hy:y<0)
 (hlz:len 4294967296 z.natAbs<=33554432) (hly:len 4294967296 y.natAbs<=33554432):
 zlg w (Rat.divInt z y) (World.num (World.num W w.heap.size x2 A2 k2 c2 s2) (w.heap.size+1) x3 A3 k3 c3 s3):=by
 have kB1:=vh (g' :=w.heap.size) (x:=x2) (A:=A2) (k:=k2) (c:=c2) (ng:=s2) kB (by omega)
 have kC1:=vh (g' :=w.heap.size) (x:=x2) (A:=A2) (k:=k2) (c:=c2) (ng:=s2) kC (by omega)
 have kA1:=yl (x:=x2) (A:=A2) (k:=k2) (c:=c2) (ng:=s2) kA
 exact ⟨_,_,_,_,_,_,_,_,_,_,_,_,zy (zy hA kA) kB1,zy (zy hB kA) kB1,vh kA1 (by omega),yl kB1,vh kC1 (by omega),
  zN (zN hW (Nat.le_refl _)) (by omega),by omega,Rat.neg_divInt_neg z y,ze (by rw [Int.natAbs_neg];exact hlz),ze (by rw [Int.natAbs_neg];exact hly)⟩
abbrev World.rat (w:World) (g:Nat) (x:Int) (A:Option Addr) (k c:Nat) (s:Bool) (y:Int) (B:Option Addr) (k' c' :Nat) (t:Bool):World:=
 ((((((w.setCell ⟨g,0,none⟩ (.int .i64 x)).setCell ⟨g,1,none⟩ (.slice A k c)).setCell ⟨g,2,none⟩ (.bool s)).setCell ⟨g,3,none⟩ (.int .i64 y)).setCell ⟨g,4,none⟩ (.slice B k' c')).setCell ⟨g,5,none⟩ (.bool t))
theorem Xd (x:Int) (A:Option Addr) (k c:Nat) (s:Bool) (y:Int) (B:Option Addr) (k' c' :Nat) (t:Bool):vN #[.int .i64 x,.slice A k c,.bool s,.int .i64 y,.slice B k' c',.bool t]:=by
 intro i d h
 match i with
 | 0=>simp at h
 | 1=>simp at h
 | 2=>simp at h
 | 3=>simp at h
 | 4=>simp at h
 | 5=>simp at h
 | n+6=>simp at h
section
variable {W w:World} {g:Nat} {t' :TypeId} {x x0 y y0 z:Int} {A A0 B B0:Option Addr} {k c k' c' k0 c0 k1 c1:Nat} {s s0 t t0:Bool} {v:Value}
theorem yu (hk:Blk W g t' #[.int .i64 x0,.slice A0 k0 c0,.bool s0,.int .i64 y0,.slice B0 k1 c1,.bool t0]):
 Blk (World.rat W g x A k c s y B k' c' t) g t' #[.int .i64 x,.slice A k c,.bool s,.int .i64 y,.slice B k' c',.bool t]:=(((((hk.set_ 0 _).set_ 1 _).set_ 2 _).set_ 3 _).set_ 4 _).set_ 5 _
theorem yI (hv:zR W v z) (hk:Blk W g t' #[.int .i64 x0,.slice A0 k0 c0,.bool s0,.int .i64 y0,.slice B0 k1 c1,.bool t0]):zR (World.rat W g x A k c s y B k' c' t) v z:=by
 refine hv.stored hk (Xd _ _ _ _ _ _ _ _ _ _) ?_ (by simp [World.rat,World.setCell])
 intro p hp
 simp only [World.rat]
 rw [World.cell?_setCell_other,World.cell?_setCell_other,World.cell?_setCell_other,World.cell?_setCell_other,World.cell?_setCell_other,World.cell?_setCell_other]
 all_goals (intro e;subst e;exact hp rfl)
theorem yp (h:Below w.heap.size w W) (hg:w.heap.size<=g):Below w.heap.size w (World.rat W g x A k c s y B k' c' t):=
 (((((h.setCell hg _).setCell hg _).setCell hg _).setCell hg _).setCell hg _).setCell hg _
theorem Vz {g' :Nat} {cs:Array Value} (hk:Blk W g t' cs) (hne:g≠g'):Blk (World.rat W g' x A k c s y B k' c' t) g t' cs:=
 (((((hk.far hne _).far hne _).far hne _).far hne _).far hne _).far hne _
end
theorem Xa {zn zd:Int} (h:0<zd) (hl:len 4294967296 zd.natAbs<=33554432):
 (Rat.divInt zn zd).num=zn.tdiv ((Nat.gcd zn.natAbs zd.natAbs:Nat):Int)/\((Rat.divInt zn zd).den:Int)=zd.tdiv ((Nat.gcd zn.natAbs zd.natAbs:Nat):Int)/\0<Nat.gcd zn.natAbs zd.natAbs/\len 4294967296 (Nat.gcd zn.natAbs zd.natAbs)<=33554432:=by
 obtain ⟨m,rfl⟩:=Int.eq_ofNat_of_zero_le (Int.le_of_lt h)
 have hm:0<m:=by omega
 obtain ⟨P1,P2⟩:=VI zn m hm
 refine ⟨P1,?_,Nat.gcd_pos_of_pos_right _ hm,Nat.le_trans (xS (by omega) (Nat.gcd_le_right _ hm)) hl⟩
 rw [P2,Int.tdiv_eq_ediv_of_nonneg (by omega)]
 rfl
theorem zq2 {w1 w2 w3 w4 w5:World} {g:Nat} {t:TypeId} {cs:Array Value} (h:Blk w1 g t cs) (h1:Below w1.heap.size w1 w2) (h2:Below w2.heap.size w2 w3) (h3:Below w3.heap.size w3 w4) (h4:Below w4.heap.size w4 w5):Blk w5 g t cs:=
 h.below (ext (ext (ext h1 h2) h3) h4) h.lt
theorem ZZ (va vb:Value) (z y:Int) (w:World) (ha:zR w va z) (hb:zR w vb y) (hy:y≠0) (hla:len 4294967296 z.natAbs<=33554432) (hlb:len 4294967296 y.natAbs<=33554432):
 Calls Tryz.prog 128 #[va,vb] w (zds w (Rat.divInt z y)):=by
 have ha' :=ha
 have hb' :=hb
 obtain ⟨x1,A,k,c,s,rfl,h1,h2,hA⟩:=ha'.form
 obtain ⟨y1,B,k',c',t,rfl,h3,h4,hB⟩:=hb'.form
 have HLN:=ze hlb
 have HLM:=ze hla
 have hW:=ext (ext (zf w (.cells #[.int .i64 x1,.slice A k c,.bool s] 91)) (zf _ (.cells #[.int .i64 y1,.slice B k' c',.bool t] 91))) (zf _ (.cells #[.int .i64 0,.slice none 0 0,.bool false,.int .i64 0,.slice none 0 0,.bool false] 93))
 have kA:=((Blk.new w 91 #[.int .i64 x1,.slice A k c,.bool s]).alloc (.cells #[.int .i64 y1,.slice B k' c',.bool t] 91)).alloc (.cells #[.int .i64 0,.slice none 0 0,.bool false,.int .i64 0,.slice none 0 0,.bool false] 93)
 have kB:=(Blk.new (w.alloc (.cells #[.int .i64 x1,.slice A k c,.bool s] 91)) 91 #[.int .i64 y1,.slice B k' c',.bool t]).alloc (.cells #[.int .i64 0,.slice none 0 0,.bool false,.int .i64 0,.slice none 0 0,.bool false] 93)
 have kC:=Blk.new ((w.alloc (.cells #[.int .i64 x1,.slice A k c,.bool s] 91)).alloc (.cells #[.int .i64 y1,.slice B k' c',.bool t] 91)) 93 #[.int .i64 0,.slice none 0 0,.bool false,.int .i64 0,.slice none 0 0,.bool false]
 simp only [World.size_alloc] at kB kC
 have HAW:=ze (ha.below hW)
 have HBW:=ze (hb.below hW)
 have HW:=ze hW
 have HkA:=ze kA
 have HkB:=ze kB
 have HkC:=ze kC
 clear hla hlb hW kA kB kC hA hB ha hb ha' hb' h1 h2 h3 h4
 go_enter Tryz.func128,Tryz.ntmps128
 go_upto_if 14 with (first | (go_at_call 108;refine (Yr _ y _ HBW.out).mono ?_;rintro e w1 ⟨rfl,hb1⟩))
 have kA:=HkA.out.below hb1 HkA.out.lt
 have kB:=HkB.out.below hb1 HkB.out.lt
 have kC:=HkC.out.below hb1 HkC.out.lt
 have hA:=HAW.out.below hb1
 have hB:=HBW.out.below hb1
 have hW1:=ext HW.out hb1
 clear HkA HkB HkC HAW HBW HW hb1
 go_cut [] (fun wx=>zlg w (Rat.divInt z y) wx)
 case first=>
  rcases (show y<0\/(¬ y<0/\0<y) by omega) with hy0 | ⟨hy0,hy1⟩
  . have hc:zK y 0= -1:=by unfold zK;rw [if_pos hy0]
    rw [hc];have a0:=kA.cell 0;have a1:=kA.cell 1;have a2:=kA.cell 2;have b0:=kB.cell 0;have b1:=kB.cell 1;have b2:=kB.cell 2;simp at a0 a1 a2 b0 b1 b2;have HkA:=ze (kA.drewN 1);have HkB:=ze (kB.drewN 1);have HkC:=ze (kC.drewN 1);have HAW:=ze (hA.below (zw w1 1));have HBW:=ze (hB.below (zw w1 1));have HW1:=ze (zl hW1 1);clear kA kB kC hA hB hW1;go_wp2_with fail
    go_region_with (first
     | (go_at_call_of 161 (Value.agg #[.int .i64 x1,.slice A k c,.bool s]);refine (yW _ z _ (by first | exact HAW.out | exact HAW.out.below hb3)).mono ?_;rintro e w2 ⟨v,rfl,hv2,hb2⟩;obtain ⟨x2,A2,k2,c2,s2,rfl,_,_,_⟩:=hv2.form;have kA2:Blk w2 w.heap.size _ _:=(by first | exact HkA.out.below hb2 HkA.out.lt | exact kA3.below hb2 kA3.lt);have kB2:Blk w2 (w.heap.size+1) _ _:=(by first | exact HkB.out.below hb2 HkB.out.lt | exact kB3.below hb2 kB3.lt);have kC2:Blk w2 (w.heap.size+1+1) _ _:=(by first | exact HkC.out.below hb2 HkC.out.lt | exact kC3.below hb2 kC3.lt);have a20:=kA2.cell 0;have a2f0:=kA2.frozen 0;have a21:=kA2.cell 1;have a2f1:=kA2.frozen 1;have a22:=kA2.cell 2;have a2f2:=kA2.frozen 2;have b20:=kB2.cell 0;have b2f0:=kB2.frozen 0;have b21:=kB2.cell 1;have b2f1:=kB2.frozen 1;have b22:=kB2.cell 2;have b2f2:=kB2.frozen 2;simp at a20 a21 a22 b20 b21 b22)
     | (go_at_call_of 161 (Value.agg #[.int .i64 y1,.slice B k' c',.bool t]);refine (yW _ y _ (by first | exact HBW.out | exact HBW.out.below hb2)).mono ?_;rintro e w3 ⟨v,rfl,hv3,hb3⟩;obtain ⟨x3,A3,k3,c3,s3,rfl,_,_,_⟩:=hv3.form;have kA3:Blk w3 w.heap.size _ _:=(by first | exact HkA.out.below hb3 HkA.out.lt | exact kA2.below hb3 kA2.lt);have kB3:Blk w3 (w.heap.size+1) _ _:=(by first | exact HkB.out.below hb3 HkB.out.lt | exact kB2.below hb3 kB2.lt);have kC3:Blk w3 (w.heap.size+1+1) _ _:=(by first | exact HkC.out.below hb3 HkC.out.lt | exact kC2.below hb3 kC2.lt);have a30:=kA3.cell 0;have a3f0:=kA3.frozen 0;have a31:=kA3.cell 1;have a3f1:=kA3.frozen 1;have a32:=kA3.cell 2;have a3f2:=kA3.frozen 2;have b30:=kB3.cell 0;have b3f0:=kB3.frozen 0;have b31:=kB3.cell 1;have b3f1:=kB3.frozen 1;have b32:=kB3.cell 2;have b3f2:=kB3.frozen 2;simp at a30 a31 a32 b30 b31 b32))
    all_goals
     go_wp2;go_meet
     case rel=>
      first
       | exact zlg.negs (hv2.below hb3) hv3 kA3 kB3 kC3 (ext (ext HW1.out hb2) hb3) hy0 HLM.out HLN.out
       | exact zlg.negs hv2 (hv3.below hb2) kA2 kB2 kC2 (ext (ext HW1.out hb3) hb2) hy0 HLM.out HLN.out
  . have hc:zK y 0=1:=by unfold zK;rw [if_neg hy0,if_pos hy1]
    rw [hc];go_wp2;go_meet
    case rel=>exact ⟨_,_,_,_,_,_,_,_,_,_,_,_,hA,hB,kA,kB,kC,hW1,hy1,rfl,HLM,HLN⟩
 case rest=>
  obtain ⟨x2,A2,k2,c2,s2,y2,B2,k3,c3,t2,zn,zd,hA,hB,kA,kB,kC,hW,hzd,HQ,HLN,HLM⟩:=hcut
  clear hy
  have q1:=fun w=>zjt w A2 k2 c2 0 0
  have q2:=fun w=>zjt w B2 k3 c3 0 0
  have a0:=kA.cell 0
  have a1:=kA.cell 1
  have a2:=kA.cell 2
  have b0:=kB.cell 0
  have b1:=kB.cell 1
  have b2:=kB.cell 2
  simp at a0 a1 a2 b0 b1 b2
  by_cases hf:A2=none/\B2=none
  . obtain ⟨rfl,rfl⟩:=hf
    obtain ⟨rfl,rfl,rfl,h1,h2⟩:=hA.small;obtain ⟨rfl,rfl,rfl,h3,h4⟩:=hB.small;have hsz:=fun w=>Xe zn (.slice none 0 0) s2 w h1 h2
    have HB:=ze (And.intro h1 (And.intro h2 h4));obtain ⟨m,rfl⟩:=Int.eq_ofNat_of_zero_le (Int.le_of_lt hzd);have hm0:0<m:=by omega
    have hm1:(m:Int)<4611686018427387904:=h4;have hwm:IntKind.u64.wrap (m:Int)=(m:Int):=by rw [IntKind.wrap_u64];omega
    clear h1 h2 h3 h4 hzd;go_wp2_with fail
    go_region_held3 (fun w' =>w'.cell? ⟨w.heap.size,0,none⟩=some (.int .i64 zn)/\w'.cell? ⟨w.heap.size,1,none⟩=some (.slice none 0 0)/\w'.cell? ⟨w.heap.size,2,none⟩=some (.bool s2)/\w'.cell? ⟨w.heap.size+1,0,none⟩=some (.int .i64 m)/\
     w.heap.size<w'.heap.size/\w.heap.size+1<w'.heap.size/\Hid (Blk w' (w.heap.size+1+1) 93 #[.int .i64 0,.slice none 0 0,.bool false,.int .i64 0,.slice none 0 0,.bool false])/\Hid (Below w.heap.size w w'))
     (first
       | exact ⟨by go_keep,by go_keep,by go_keep,by go_keep,(kA.drewN 1).lt,(kB.drewN 1).lt,ze (kC.drewN 1),ze (zl hW 1)⟩
       | go_keep
       | (go_split_ands;exact ⟨zj ‹_› ‹_› ‹_›,zj ‹_› ‹_› ‹_›,zj ‹_› ‹_› ‹_›,zj ‹_› ‹_› ‹_›,zE ‹_› ‹_›,zE ‹_› ‹_›,Ze ‹_› ‹_›,zt ‹_› ‹_›⟩))
     (first
       | (refine (hsz _).mono ?_;rintro e w4 ⟨rfl,hb4⟩))
    go_split_ands;have kC4:=zI (by assumption:Hid (Blk w4 (w.heap.size+1+1) _ _));have hW4:=zI (by assumption:Hid (Below w.heap.size w w4));have c0:=kC4.cell 0;have c1:=kC4.cell 1;have c2:=kC4.cell 2;have c3:=kC4.cell 3;have c4:=kC4.cell 4;have c5:=kC4.cell 5;have f0:=kC4.frozen 0;have f1:=kC4.frozen 1;have f2:=kC4.frozen 2;have f3:=kC4.frozen 3;have f4:=kC4.frozen 4;have f5:=kC4.frozen 5;simp at c0 c1 c2 c3 c4 c5;clear kA kB kC hW hb4 hA hB;go_wp2_with fail
    go_loopw [5,6] (EucR zn.natAbs m w4) (fun _ bv _=>(intOf bv).toNat)
    case atStart=>exact ⟨zn.natAbs,m,0,rfl,rfl,rfl,by have:=HB.out;omega,by omega,rfl⟩
    case round=>
     obtain ⟨a,b,nq,rfl,rfl,rfl,ha,hb,HG⟩:=hrel;have kC5:=kC4.drewN nq
     by_cases hb0:b=0
     . subst hb0
       have hg:a=Nat.gcd zn.natAbs m:=by have:=HG.out;rwa [Nat.gcd_zero_right] at this
       have ha0:0<a:=by rw [hg];exact Nat.gcd_pos_of_pos_right _ hm0
       obtain ⟨P1,P2⟩:=VI zn m hm0;rw [<- hg] at P1 P2;rw [HQ.out] at P1 P2;have HP1:=ze P1;have HP2:=ze P2;clear P1 P2 hg HG;obtain ⟨t1,t2⟩:=zbe (y:=(a:Int)) HB.out.1 HB.out.2.1;have t3:0<=(m:Int) / (a:Int):=Int.ediv_nonneg (by omega) (by omega);have t4:(m:Int) / (a:Int)<4611686018427387904:=by have:=Int.ediv_le_self (a:=(m:Int)) (a:Int) (by omega);omega
       have hane:((a:Int) == 0)=false:=beq_eq_false_iff_ne.2 (by omega);have hane' :¬ (a:Int)=0:=by omega
       have ha00:¬ a=0:=by omega
       have hne1:¬ w.heap.size=w.heap.size+1+1:=by omega
       have hne2:¬ w.heap.size+1+1=w.heap.size:=by omega
       have w1:IntKind.i64.wrap (a:Int)=(a:Int):=IntWalk.i64_in _ (by omega);have w2:IntKind.i64.wrap (zn.tdiv a)=zn.tdiv a:=IntWalk.i64_in _ (by omega);have w3:IntKind.i64.wrap ((m:Int) / a)=(m:Int) / a:=IntWalk.i64_in _ (by omega);go_wp2_with fail
       go_region_held3 (fun w' =>w'.cell? ⟨w.heap.size,0,none⟩=some (.int .i64 zn)/\w'.cell? ⟨w.heap.size+1,0,none⟩=some (.int .i64 m)) (go_keep) (fail)
       go_wp2;have kD:=((((((kC4.drewN (nq+1)).set_ 0 (.int .i64 (zn.tdiv a))).set_ 1 (.slice none 0 0)).set_ 2 (.bool false)).set_ 3 (.int .i64 ((m:Int) / a))).set_ 4 (.slice none 0 0)).set_ 5 (.bool false);have d0:=kD.cell 0;have d1:=kD.cell 1;have d2:=kD.cell 2;have d3:=kD.cell 3;have d4:=kD.cell 4;have d5:=kD.cell 5;simp at d0 d1 d2 d3 d4 d5;refine bodyPost_ret (v:=.agg #[.int .i64 (zn.tdiv a),.slice none 0 0,.bool false,.int .i64 ((m:Int) / a),.slice none 0 0,.bool false]) (by simp [results,Tryz.results128,go_sem,d0,d1,d2,d3,d4,d5]) rfl ?_;refine ⟨_,rfl,⟨_,_,_,_,_,_,_,_,_,_,rfl,.inl ⟨_,_,rfl,t1,t2,HP1.out⟩,.inl ⟨_,_,rfl,by omega,t4,HP2.out⟩⟩,?_⟩;exact ((((((zl hW4 (nq+1)).setCell (by simp;omega) _).setCell (by simp;omega) _).setCell (by simp;omega) _).setCell (by simp;omega) _).setCell (by simp;omega) _).setCell (by simp;omega) _
     . have HA1:=ze ha
       have HB1:=ze hb;clear ha hb HB hm1;have hbne:((b:Int) == 0)=false:=beq_eq_false_iff_ne.2 (by omega);have hbne' :¬ (b:Int)=0:=by omega
       go_wp2_with fail
       go_quiet (fail)
       go_wp2;go_roundw
       case rel=>
        refine ⟨b,a % b,_,World.drewN_drewN _ _ _,rfl,?_,HB1.out,?_,?_⟩
        . go_num
        . have:=Nat.mod_lt a (Nat.pos_of_ne_zero hb0);have:=HB1.out;omega
        . show _=_
          rw [Nat.gcd_comm, <- Nat.gcd_rec,Nat.gcd_comm];exact HG.out
       case measure=>
        have:=Nat.mod_lt a (Nat.pos_of_ne_zero hb0)
        simp [intOf]<;>omega
  . rcases A2 with _ | ad
    . obtain ⟨bd,rfl⟩:∃ bd,B2=some bd:=by
       rcases B2 with _ | bd
       . exact absurd ⟨rfl,rfl⟩ hf
       . exact ⟨bd,rfl⟩
      clear hf;have HA:=ze hA;have HB:=ze hB;have HkA:=ze kA;have HkB:=ze kB;have HkC:=ze kC;have HW:=ze hW;obtain ⟨P1,P2,hG1,hG2⟩:=Xa hzd HLM.out;rw [HQ.out] at P1 P2;obtain ⟨G,hG⟩:∃ G,G=Nat.gcd zn.natAbs zd.natAbs:=⟨_,rfl⟩;rw [<- hG] at P1 P2 hG1 hG2;have HP1:=ze P1;have HP2:=ze P2;have HG1:=ze hG1;have HG2:=ze hG2;have HG:=ze hG;clear hA hB kA kB kC hW hzd P1 P2 hG1 hG2 hG;go_wp2_with fail;refine (vW _ zn _ HA.out).mono ?_;rintro e w5 ⟨p,rfl,hp,hb5⟩;have kB5:=HkB.out.below hb5 HkB.out.lt;have b0:=kB5.cell 0;have b1:=kB5.cell 1;have b2:=kB5.cell 2;simp at b0 b1 b2;go_wp2_with fail;refine (vW _ zd _ (HB.out.below hb5)).mono ?_;rintro e w6 ⟨p',rfl,hp',hb6⟩;have hp2:=hp.below hb6;clear b0 b1 b2 a0 a1 a2;go_wp2_with fail;refine (zlz p p' _ _ w6 hp2 hp' HLN.out HLM.out).mono ?_;rintro e w7 ⟨q,rfl,hq,hb7⟩;rw [<- HG.out] at hq;go_wp2_with fail;refine (yi false q _ w7 hq).mono ?_;rintro e w8 ⟨v,rfl,hv,hb8⟩;obtain ⟨x',A',k4,c4,ng',rfl,_,_,_⟩:=hv.form;have hW8:=ext (ext (ext (ext HW.out hb5) hb6) hb7) hb8;have hA8:=(((HA.out.below hb5).below hb6).below hb7).below hb8
      have hB8:=(((HB.out.below hb5).below hb6).below hb7).below hb8;have kA8:=zq2 HkA.out hb5 hb6 hb7 hb8;have kB8:=zq2 HkB.out hb5 hb6 hb7 hb8;have kC8:=zq2 HkC.out hb5 hb6 hb7 hb8;have HW8:=ze hW8;have HA8:=ze hA8;have HB8:=ze hB8;have HV8:=ze (show zR w8 _ ((G:Nat):Int) from hv);have a0:=kA8.cell 0;have a1:=kA8.cell 1;have a2:=kA8.cell 2;have l1:=kA8.lt;have l2:=kB8.lt;have l3:=kC8.lt;simp at a0 a1 a2;have HkA8:=ze kA8;have HkB8:=ze kB8;have HkC8:=ze kC8;clear hb5 hb6 hb7 hb8 hW8 hA8 hB8 hv hq hp hp' hp2 HW HA HB HkA HkB HkC kB5 q1 q2 kA8 kB8 kC8;go_wp2_with fail;have hb9:=zf w8 (.cells #[.int .i64 x',.slice A' k4 c4,.bool ng'] 91);have hA9:=HA8.out.below hb9;have hB9:=HB8.out.below hb9;have hV9:=HV8.out.below hb9;have kA9:=HkA8.out.below hb9 l1;have kB9:=HkB8.out.below hb9 l2;have kC9:=HkC8.out.below hb9 l3;have kG9:=Blk.new w8 91 #[.int .i64 x',.slice A' k4 c4,.bool ng'];have hW9:=ext HW8.out hb9;generalize hgg:w8.heap.size=gg at kG9 |-;have lgg:w.heap.size+1+1<gg:=by omega
      generalize w8.alloc (.cells #[.int .i64 x',.slice A' k4 c4,.bool ng'] 91)=w9 at hA9 hB9 hV9 kA9 kB9 kC9 kG9 hW9 |-;clear hb9 HA8 HB8 HV8 HkA8 HkB8 HkC8 HW8 a0 a1 a2 l1 l2 l3 hgg;have hg0:((G:Nat):Int)≠0:=by have:=HG1.out;omega
      refine (V6 _ _ zn G w9 hA9 hV9 hg0 HLN.out HG2.out).mono ?_;rintro e w10 ⟨v1,v2,rfl,hv1,hv2,hb10⟩;obtain ⟨x5,A5,k5,c5,n5,rfl,_,_,_⟩:=hv1.form;have kA10:=kA9.below hb10 kA9.lt;have a0:=kA10.cell 0;have a1:=kA10.cell 1;have a2:=kA10.cell 2;have f0:=kA10.frozen 0;have f1:=kA10.frozen 1;have f2:=kA10.frozen 2;simp at a0 a1 a2;have kB10:=vh (g' :=w.heap.size) (x:=x5) (A:=A5) (k:=k5) (c:=c5) (ng:=n5) (kB9.below hb10 kB9.lt) (by omega);have kC10:=vh (g' :=w.heap.size) (x:=x5) (A:=A5) (k:=k5) (c:=c5) (ng:=n5) (kC9.below hb10 kC9.lt) (by omega);have kG10:=vh (g' :=w.heap.size) (x:=x5) (A:=A5) (k:=k5) (c:=c5) (ng:=n5) (kG9.below hb10 kG9.lt) (by omega);have kA11:=yl (x:=x5) (A:=A5) (k:=k5) (c:=c5) (ng:=n5) kA10;have hQ1:=zy (x:=x5) (A:=A5) (k:=k5) (c:=c5) (ng:=n5) hv1 kA10;have hB10:=zy (x:=x5) (A:=A5) (k:=k5) (c:=c5) (ng:=n5) (hB9.below hb10) kA10;have hV10:=zy (x:=x5) (A:=A5) (k:=k5) (c:=c5) (ng:=n5) (hV9.below hb10) kA10;have hW10:=zN (x:=x5) (A:=A5) (k:=k5) (c:=c5) (ng:=n5) (ext hW9 hb10) (Nat.le_refl _);have d0:=kB10.cell 0
      have d1:=kB10.cell 1;have d2:=kB10.cell 2;have g0:=kG10.cell 0;have g1:=kG10.cell 1;have g2:=kG10.cell 2;simp at d0 d1 d2 g0 g1 g2;have HkA11:=ze kA11;have HkB10:=ze kB10;have HkC10:=ze kC10;have HQ1:=ze hQ1;have HB10:=ze hB10;have HV10:=ze hV10;have HW10:=ze hW10;clear kA9 kB9 kC9 kG9 hA9 hB9 hV9 hW9 hb10 hv1 hv2 kA10 kB10 kC10 kG10 kA11 hQ1 hB10 hV10 hW10;simp only [World.num] at HkA11 HkB10 HkC10 HQ1 HB10 HV10 HW10 d0 d1 d2 g0 g1 g2;go_wp2_with fail;generalize ((w10.setCell { block:=w.heap.size,off:=0 } (.int .i64 x5)).setCell { block:=w.heap.size,off:=1 } (.slice A5 k5 c5)).setCell { block:=w.heap.size,off:=2 } (.bool n5)=w11 at HkA11 HkB10 HkC10 HQ1 HB10 HV10 HW10 d0 d1 d2 g0 g1 g2 |-;clear a0 a1 a2 f0 f1 f2;refine (V6 _ _ zd G w11 HB10.out HV10.out hg0 HLM.out HG2.out).mono ?_;rintro e w12 ⟨v1,v2,rfl,hv1,hv2,hb12⟩;obtain ⟨x6,A6,k6,c6,n6,rfl,_,_,_⟩:=hv1.form;have kB12:=HkB10.out.below hb12 HkB10.out.lt;have a0:=kB12.cell 0;have a1:=kB12.cell 1;have a2:=kB12.cell 2;have f0:=kB12.frozen 0;have f1:=kB12.frozen 1;have f2:=kB12.frozen 2;simp at a0 a1 a2
      have kA12:=vh (g' :=w.heap.size+1) (x:=x6) (A:=A6) (k:=k6) (c:=c6) (ng:=n6) (HkA11.out.below hb12 HkA11.out.lt) (by omega);have kC12:=vh (g' :=w.heap.size+1) (x:=x6) (A:=A6) (k:=k6) (c:=c6) (ng:=n6) (HkC10.out.below hb12 HkC10.out.lt) (by omega);have kB13:=yl (x:=x6) (A:=A6) (k:=k6) (c:=c6) (ng:=n6) kB12;have hQ2:=zy (x:=x6) (A:=A6) (k:=k6) (c:=c6) (ng:=n6) hv1 kB12;have hQ1:=zy (x:=x6) (A:=A6) (k:=k6) (c:=c6) (ng:=n6) (HQ1.out.below hb12) kB12;have hW12:=zN (g:=w.heap.size+1) (x:=x6) (A:=A6) (k:=k6) (c:=c6) (ng:=n6) (ext HW10.out hb12) (by omega);have HQ1' :=ze hQ1;have HQ2' :=ze hQ2;have HW12:=ze hW12;have HkA12:=ze kA12;have HkB13:=ze kB13;have HkC12:=ze kC12;clear hb12 hv1 hv2 kB12 kA12 kC12 kB13 hQ1 hQ2 hW12 HkA11 HkB10 HkC10 HQ1 HB10 HV10 HW10 d0 d1 d2 g0 g1 g2;have d0:=HkA12.out.cell 0;have d1:=HkA12.out.cell 1;have d2:=HkA12.out.cell 2;have g0:=HkB13.out.cell 0;have g1:=HkB13.out.cell 1;have g2:=HkB13.out.cell 2;have h0:=HkC12.out.cell 0;have h1:=HkC12.out.cell 1;have h2:=HkC12.out.cell 2;have h3:=HkC12.out.cell 3
      have h4:=HkC12.out.cell 4;have h5:=HkC12.out.cell 5;have j0:=HkC12.out.frozen 0;have j1:=HkC12.out.frozen 1;have j2:=HkC12.out.frozen 2;have j3:=HkC12.out.frozen 3;have j4:=HkC12.out.frozen 4;have j5:=HkC12.out.frozen 5;simp at d0 d1 d2 g0 g1 g2 h0 h1 h2 h3 h4 h5;go_wp2_with fail;have kR:=yu (x:=x5) (A:=A5) (k:=k5) (c:=c5) (s:=n5) (y:=x6) (B:=A6) (k' :=k6) (c' :=c6) (t:=n6) HkC12.out;have hR1:=yI (x:=x5) (A:=A5) (k:=k5) (c:=c5) (s:=n5) (y:=x6) (B:=A6) (k' :=k6) (c' :=c6) (t:=n6) HQ1'.out HkC12.out;have hR2:=yI (x:=x5) (A:=A5) (k:=k5) (c:=c5) (s:=n5) (y:=x6) (B:=A6) (k' :=k6) (c' :=c6) (t:=n6) HQ2'.out HkC12.out;have hRW:=yp (g:=w.heap.size+1+1) (x:=x5) (A:=A5) (k:=k5) (c:=c5) (s:=n5) (y:=x6) (B:=A6) (k' :=k6) (c' :=c6) (t:=n6) HW12.out (by omega);have e0:=kR.cell 0;have e1:=kR.cell 1;have e2:=kR.cell 2;have e3:=kR.cell 3;have e4:=kR.cell 4;have e5:=kR.cell 5;simp only [World.rat,World.num] at e0 e1 e2 e3 e4 e5;simp at e0 e1 e2 e3 e4 e5
      refine bodyPost_ret (v:=.agg #[.int .i64 x5,.slice A5 k5 c5,.bool n5,.int .i64 x6,.slice A6 k6 c6,.bool n6]) (by simp [results,Tryz.results128,go_sem,e0,e1,e2,e3,e4,e5]) rfl ?_;refine ⟨_,rfl,⟨_,_,_,_,_,_,_,_,_,_,rfl,?_,?_⟩,hRW⟩
      . rw [HP1.out];exact hR1
      . rw [HP2.out];exact hR2
    . clear hf
      have HA:=ze hA;have HB:=ze hB;have HkA:=ze kA;have HkB:=ze kB;have HkC:=ze kC;have HW:=ze hW;obtain ⟨P1,P2,hG1,hG2⟩:=Xa hzd HLM.out;rw [HQ.out] at P1 P2;obtain ⟨G,hG⟩:∃ G,G=Nat.gcd zn.natAbs zd.natAbs:=⟨_,rfl⟩;rw [<- hG] at P1 P2 hG1 hG2;have HP1:=ze P1;have HP2:=ze P2;have HG1:=ze hG1;have HG2:=ze hG2;have HG:=ze hG;clear hA hB kA kB kC hW hzd P1 P2 hG1 hG2 hG;go_wp2_with fail;refine (vW _ zn _ HA.out).mono ?_;rintro e w5 ⟨p,rfl,hp,hb5⟩;have kB5:=HkB.out.below hb5 HkB.out.lt;have b0:=kB5.cell 0;have b1:=kB5.cell 1;have b2:=kB5.cell 2;simp at b0 b1 b2;go_wp2_with fail;refine (vW _ zd _ (HB.out.below hb5)).mono ?_;rintro e w6 ⟨p',rfl,hp',hb6⟩;have hp2:=hp.below hb6;clear b0 b1 b2 a0 a1 a2;go_wp2_with fail;refine (zlz p p' _ _ w6 hp2 hp' HLN.out HLM.out).mono ?_;rintro e w7 ⟨q,rfl,hq,hb7⟩;rw [<- HG.out] at hq;go_wp2_with fail;refine (yi false q _ w7 hq).mono ?_;rintro e w8 ⟨v,rfl,hv,hb8⟩;obtain ⟨x',A',k4,c4,ng',rfl,_,_,_⟩:=hv.form;have hW8:=ext (ext (ext (ext HW.out hb5) hb6) hb7) hb8;have hA8:=(((HA.out.below hb5).below hb6).below hb7).below hb8
      have hB8:=(((HB.out.below hb5).below hb6).below hb7).below hb8;have kA8:=zq2 HkA.out hb5 hb6 hb7 hb8;have kB8:=zq2 HkB.out hb5 hb6 hb7 hb8;have kC8:=zq2 HkC.out hb5 hb6 hb7 hb8;have HW8:=ze hW8;have HA8:=ze hA8;have HB8:=ze hB8;have HV8:=ze (show zR w8 _ ((G:Nat):Int) from hv);have a0:=kA8.cell 0;have a1:=kA8.cell 1;have a2:=kA8.cell 2;have l1:=kA8.lt;have l2:=kB8.lt;have l3:=kC8.lt;simp at a0 a1 a2;have HkA8:=ze kA8;have HkB8:=ze kB8;have HkC8:=ze kC8;clear hb5 hb6 hb7 hb8 hW8 hA8 hB8 hv hq hp hp' hp2 HW HA HB HkA HkB HkC kB5 q1 q2 kA8 kB8 kC8;go_wp2_with fail;have hb9:=zf w8 (.cells #[.int .i64 x',.slice A' k4 c4,.bool ng'] 91);have hA9:=HA8.out.below hb9;have hB9:=HB8.out.below hb9;have hV9:=HV8.out.below hb9;have kA9:=HkA8.out.below hb9 l1;have kB9:=HkB8.out.below hb9 l2;have kC9:=HkC8.out.below hb9 l3;have kG9:=Blk.new w8 91 #[.int .i64 x',.slice A' k4 c4,.bool ng'];have hW9:=ext HW8.out hb9;generalize hgg:w8.heap.size=gg at kG9 |-;have lgg:w.heap.size+1+1<gg:=by omega
      generalize w8.alloc (.cells #[.int .i64 x',.slice A' k4 c4,.bool ng'] 91)=w9 at hA9 hB9 hV9 kA9 kB9 kC9 kG9 hW9 |-;clear hb9 HA8 HB8 HV8 HkA8 HkB8 HkC8 HW8 a0 a1 a2 l1 l2 l3 hgg;have hg0:((G:Nat):Int)≠0:=by have:=HG1.out;omega
      refine (V6 _ _ zn G w9 hA9 hV9 hg0 HLN.out HG2.out).mono ?_;rintro e w10 ⟨v1,v2,rfl,hv1,hv2,hb10⟩;obtain ⟨x5,A5,k5,c5,n5,rfl,_,_,_⟩:=hv1.form;have kA10:=kA9.below hb10 kA9.lt;have a0:=kA10.cell 0;have a1:=kA10.cell 1;have a2:=kA10.cell 2;have f0:=kA10.frozen 0;have f1:=kA10.frozen 1;have f2:=kA10.frozen 2;simp at a0 a1 a2;have kB10:=vh (g' :=w.heap.size) (x:=x5) (A:=A5) (k:=k5) (c:=c5) (ng:=n5) (kB9.below hb10 kB9.lt) (by omega);have kC10:=vh (g' :=w.heap.size) (x:=x5) (A:=A5) (k:=k5) (c:=c5) (ng:=n5) (kC9.below hb10 kC9.lt) (by omega);have kG10:=vh (g' :=w.heap.size) (x:=x5) (A:=A5) (k:=k5) (c:=c5) (ng:=n5) (kG9.below hb10 kG9.lt) (by omega);have kA11:=yl (x:=x5) (A:=A5) (k:=k5) (c:=c5) (ng:=n5) kA10;have hQ1:=zy (x:=x5) (A:=A5) (k:=k5) (c:=c5) (ng:=n5) hv1 kA10;have hB10:=zy (x:=x5) (A:=A5) (k:=k5) (c:=c5) (ng:=n5) (hB9.below hb10) kA10;have hV10:=zy (x:=x5) (A:=A5) (k:=k5) (c:=c5) (ng:=n5) (hV9.below hb10) kA10;have hW10:=zN (x:=x5) (A:=A5) (k:=k5) (c:=c5) (ng:=n5) (ext hW9 hb10) (Nat.le_refl _);have d0:=kB10.cell 0
      have d1:=kB10.cell 1;have d2:=kB10.cell 2;have g0:=kG10.cell 0;have g1:=kG10.cell 1;have g2:=kG10.cell 2;simp at d0 d1 d2 g0 g1 g2;have HkA11:=ze kA11;have HkB10:=ze kB10;have HkC10:=ze kC10;have HQ1:=ze hQ1;have HB10:=ze hB10;have HV10:=ze hV10;have HW10:=ze hW10;clear kA9 kB9 kC9 kG9 hA9 hB9 hV9 hW9 hb10 hv1 hv2 kA10 kB10 kC10 kG10 kA11 hQ1 hB10 hV10 hW10;simp only [World.num] at HkA11 HkB10 HkC10 HQ1 HB10 HV10 HW10 d0 d1 d2 g0 g1 g2;go_wp2_with fail;generalize ((w10.setCell { block:=w.heap.size,off:=0 } (.int .i64 x5)).setCell { block:=w.heap.size,off:=1 } (.slice A5 k5 c5)).setCell { block:=w.heap.size,off:=2 } (.bool n5)=w11 at HkA11 HkB10 HkC10 HQ1 HB10 HV10 HW10 d0 d1 d2 g0 g1 g2 |-;clear a0 a1 a2 f0 f1 f2;refine (V6 _ _ zd G w11 HB10.out HV10.out hg0 HLM.out HG2.out).mono ?_;rintro e w12 ⟨v1,v2,rfl,hv1,hv2,hb12⟩;obtain ⟨x6,A6,k6,c6,n6,rfl,_,_,_⟩:=hv1.form;have kB12:=HkB10.out.below hb12 HkB10.out.lt;have a0:=kB12.cell 0;have a1:=kB12.cell 1;have a2:=kB12.cell 2;have f0:=kB12.frozen 0;have f1:=kB12.frozen 1;have f2:=kB12.frozen 2;simp at a0 a1 a2
      have kA12:=vh (g' :=w.heap.size+1) (x:=x6) (A:=A6) (k:=k6) (c:=c6) (ng:=n6) (HkA11.out.below hb12 HkA11.out.lt) (by omega);have kC12:=vh (g' :=w.heap.size+1) (x:=x6) (A:=A6) (k:=k6) (c:=c6) (ng:=n6) (HkC10.out.below hb12 HkC10.out.lt) (by omega);have kB13:=yl (x:=x6) (A:=A6) (k:=k6) (c:=c6) (ng:=n6) kB12;have hQ2:=zy (x:=x6) (A:=A6) (k:=k6) (c:=c6) (ng:=n6) hv1 kB12;have hQ1:=zy (x:=x6) (A:=A6) (k:=k6) (c:=c6) (ng:=n6) (HQ1.out.below hb12) kB12;have hW12:=zN (g:=w.heap.size+1) (x:=x6) (A:=A6) (k:=k6) (c:=c6) (ng:=n6) (ext HW10.out hb12) (by omega);have HQ1' :=ze hQ1;have HQ2' :=ze hQ2;have HW12:=ze hW12;have HkA12:=ze kA12;have HkB13:=ze kB13;have HkC12:=ze kC12;clear hb12 hv1 hv2 kB12 kA12 kC12 kB13 hQ1 hQ2 hW12 HkA11 HkB10 HkC10 HQ1 HB10 HV10 HW10 d0 d1 d2 g0 g1 g2;have d0:=HkA12.out.cell 0;have d1:=HkA12.out.cell 1;have d2:=HkA12.out.cell 2;have g0:=HkB13.out.cell 0;have g1:=HkB13.out.cell 1;have g2:=HkB13.out.cell 2;have h0:=HkC12.out.cell 0;have h1:=HkC12.out.cell 1;have h2:=HkC12.out.cell 2;have h3:=HkC12.out.cell 3
      have h4:=HkC12.out.cell 4;have h5:=HkC12.out.cell 5;have j0:=HkC12.out.frozen 0;have j1:=HkC12.out.frozen 1;have j2:=HkC12.out.frozen 2;have j3:=HkC12.out.frozen 3;have j4:=HkC12.out.frozen 4;have j5:=HkC12.out.frozen 5;simp at d0 d1 d2 g0 g1 g2 h0 h1 h2 h3 h4 h5;go_wp2_with fail;have kR:=yu (x:=x5) (A:=A5) (k:=k5) (c:=c5) (s:=n5) (y:=x6) (B:=A6) (k' :=k6) (c' :=c6) (t:=n6) HkC12.out;have hR1:=yI (x:=x5) (A:=A5) (k:=k5) (c:=c5) (s:=n5) (y:=x6) (B:=A6) (k' :=k6) (c' :=c6) (t:=n6) HQ1'.out HkC12.out;have hR2:=yI (x:=x5) (A:=A5) (k:=k5) (c:=c5) (s:=n5) (y:=x6) (B:=A6) (k' :=k6) (c' :=c6) (t:=n6) HQ2'.out HkC12.out;have hRW:=yp (g:=w.heap.size+1+1) (x:=x5) (A:=A5) (k:=k5) (c:=c5) (s:=n5) (y:=x6) (B:=A6) (k' :=k6) (c' :=c6) (t:=n6) HW12.out (by omega);have e0:=kR.cell 0;have e1:=kR.cell 1;have e2:=kR.cell 2;have e3:=kR.cell 3;have e4:=kR.cell 4;have e5:=kR.cell 5;simp only [World.rat,World.num] at e0 e1 e2 e3 e4 e5;simp at e0 e1 e2 e3 e4 e5
      refine bodyPost_ret (v:=.agg #[.int .i64 x5,.slice A5 k5 c5,.bool n5,.int .i64 x6,.slice A6 k6 c6,.bool n6]) (by simp [results,Tryz.results128,go_sem,e0,e1,e2,e3,e4,e5]) rfl ?_;refine ⟨_,rfl,⟨_,_,_,_,_,_,_,_,_,_,rfl,?_,?_⟩,hRW⟩
      . rw [HP1.out];exact hR1
      . rw [HP2.out];exact hR2
def zpv (w:World) (n m:Nat) (e:Ending) (w' :World):Prop:=∃ v v',e= .returned (.tuple #[v,v'])/\zz w' v n/\zz w' v' m/\Below w.heap.size w w'
theorem zav (w:World) {d:Nat} (h0:0<d) (h:d<1000000000):zz (w.alloc (.cells #[.int .i64 (d:Int)] 3)) (.slice (some ⟨w.heap.size,0,none⟩) 1 1) d:=by
 have hr:=xj w 3 (.int .i64 (d:Int))
 exact ⟨_,1,[d],rfl,Nat.le_refl _,by unfold maxLen;decide,by simpa [Zp] using hr,yJ.mk_ (fun x hx=>by rw [List.mem_singleton] at hx;omega) (fun _=>by simpa using (by omega:d≠0)),ZH _ _⟩
theorem zg5 (w:World):zz w (.slice none 0 0) 0:=⟨none,0,[],rfl,by simp,by simp [maxLen],zY.none_,yJ.nil _,rfl⟩
def znb (da:List Nat) (b:Nat) (w:World) (rv iv:Value) (wr:World):Prop:=
 ∃ (k r:Nat) (Q:List Nat),k<=da.length/\iv= .int .i64 ((k:Int) - 1)/\zz wr rv r/\Hid (r<b)/\Q.length=da.length/\zD 1000000000 Q/\Hid (∀ p,p<k->Q.getD p 0=0)/\
  Hid (val 1000000000 (da.drop k)=val 1000000000 (Q.drop k)*b+r)/\Blk wr w.heap.size 3 (xz Q)/\Below w.heap.size w wr
def zs2 (b R:Nat) (Q:List Nat) (w:World) (rv:Value) (lv hv:Value) (wr:World):Prop:=
 ∃ lo hi:Nat,lo<=hi/\hi<1000000000/\lv= .int .i64 lo/\hv= .int .i64 hi/\Hid (lo*b<=R)/\Hid (R<(hi+1)*b)/\zz wr rv R/\Blk wr w.heap.size 3 (xz Q)/\Below w.heap.size w wr
theorem zgw {da:List Nat} {k:Nat} (hk:0<k) (hl:k<=da.length):val 1000000000 (da.drop (k - 1))=da[k - 1]'(by omega)+1000000000*val 1000000000 (da.drop k):=by
 have:=Z5 1000000000 da (k - 1) (by omega)
 rwa [show k - 1+1=k by omega] at this
theorem znb.skip {da Q:List Nat} {b k r:Nat} {w wr:World} {rv iv:Value} (hk:0<k) (hl:k<=da.length) (hQ:Q.length=da.length) (hsQ:zD 1000000000 Q) (HZ:Hid (∀ p,p<k->Q.getD p 0=0))
 (HV:Hid (val 1000000000 (da.drop k)=val 1000000000 (Q.drop k)*b+r)) (hblk:Blk wr w.heap.size 3 (xz Q)) (hbl:Below w.heap.size w wr)
 (hr:zz wr rv (da[k - 1]'(by omega)+1000000000*r)) (hlt:da[k - 1]'(by omega)+1000000000*r<b) (hiv:iv= .int .i64 ((k:Int) - 1 - 1)):znb da b w rv iv wr:=by
 refine ⟨k - 1,_,Q,by omega,by rw [hiv];congr 1;omega,hr,hlt,hQ,hsQ,fun p hp=>HZ.out p (by omega),?_,hblk,hbl⟩
 show _=_
 have h1:=HV.out
 have h2:=HZ.out (k - 1) (by omega)
 rw [zu (by omega)] at h2
 rw [zgw hk hl,zgw hk (by omega),h1,h2,Nat.mul_add,Nat.zero_add, <- Nat.mul_assoc]
 omega
theorem znb.digit {da Q:List Nat} {b k r d:Nat} {w wr:World} {rv iv:Value} (hk:0<k) (hl:k<=da.length) (hQ:Q.length=da.length) (hsQ:zD 1000000000 Q) (HZ:Hid (∀ p,p<k->Q.getD p 0=0))
 (HV:Hid (val 1000000000 (da.drop k)=val 1000000000 (Q.drop k)*b+r)) (hb:0<b) (hblk:Blk wr w.heap.size 3 (xz (Q.set (k - 1) d))) (hbl:Below w.heap.size w wr)
 (hd:d<1000000000) (h1:d*b<=da[k - 1]'(by omega)+1000000000*r) (h2:da[k - 1]'(by omega)+1000000000*r<(d+1)*b)
 (hr:zz wr rv (da[k - 1]'(by omega)+1000000000*r - b*d)) (hiv:iv= .int .i64 ((k:Int) - 1 - 1)):znb da b w rv iv wr:=by
 rw [Nat.add_mul,Nat.one_mul] at h2
 rw [Nat.mul_comm b d] at hr
 refine ⟨k - 1,_,Q.set (k - 1) d,by omega,by rw [hiv];congr 1;omega,hr,?_,by simpa using hQ,hsQ.set _ _ hd,fun p hp=>by rw [getD_set_ne _ _ _ _ (by omega)];exact HZ.out p (by omega),?_,hblk,hbl⟩
 . show _<_
   omega
 . show _=_
   have h3:=HV.out;have h4:=YO 1000000000 Q (k - 1) d (by omega);rw [show k - 1+1=k by omega] at h4;rw [zgw hk hl,h4,h3,Nat.add_mul,Nat.mul_add, <- Nat.mul_assoc]
   omega
theorem Xj.more {w:World} {B B' :Nat} {v:Value} {n:Nat} (h:Xj w B v n) (hB:B<=B'):Xj w B' v n:=by
 obtain ⟨A,c,ds,h1,h2,h3,h4,h5⟩:=h
 exact ⟨A,c,ds,h1,h2,h3,h4.more hB,h5⟩
theorem Xj.lt9 {w:World} {B n:Nat} {ad:Addr} {k c:Nat} (h:Xj w B (.slice (some ad) k c) n) (hk:0<k):ad.block<B:=by
 obtain ⟨A',c',ds,e,h1,h2,h3,h4,h5⟩:=h
 injection e with e1 e2 e3
 subst e1 e2 e3
 obtain ⟨ad,e,hb,_⟩:=h3.2 hk
 injection e with e
 subst e
 exact hb
theorem zif {w:World} {base n:Nat} {v:Value} {ds:List Nat} (h:w.ownsRow base 3 1 v n (Zp ds)) (hn:0<n):∃ g c,v= .slice (some ⟨g,0,none⟩) n c/\base<=g/\n<=c/\c<=maxLen/\zY w w.heap.size 1 (some ⟨g,0,none⟩) n (Zp ds):=by
 rcases h.2 with ⟨rfl,h0⟩ | ⟨g,cap,cur,rfl,hb,hg,hnc,hcm,hcs,ht⟩
 . omega
 . exact ⟨g,cap,rfl,hb,hnc,hcm,zY.of_own h⟩
theorem zf0 {W:World} {g q i k c n:Nat} {u:Value} (h:zz W (.slice (some ⟨g,0,none⟩) k c) n) (hne:g≠q):zz (W.setCell ⟨q,i,none⟩ u) (.slice (some ⟨g,0,none⟩) k c) n:=by
 obtain ⟨A,c',ds,e,h1,h2,h3,h4,h5⟩:=h
 injection e with e1 e2 e3
 subst e1 e2 e3
 refine ⟨_,_,ds,rfl,h1,h2,?_,h4,h5⟩
 have h6:zY (W.setCell ⟨q,i,none⟩ u) W.heap.size 1 (some ⟨g,0,none⟩) ds.length (Zp ds):=zY.apart h3 (fun p hp=>World.cell?_setCell_other W _ p u (fun e=>by subst e;exact hne hp.symm))
 exact h6.more (by simp [World.setCell])
theorem zqi {w:World} {B:Nat} {d:Nat} (hB:B<=w.heap.size):(w.alloc (.cells #[.int .i64 (d:Int)] 3)).ownsRow B 3 1 (.slice (some ⟨w.heap.size,0,none⟩) 1 1) 1 (Zp [d]):=
 World.ownsRow_lit (e:=3) (size:=1) w #[Value.int .i64 (d:Int)] 1 hB (by unfold maxLen;decide) rfl
theorem zj7 {w w' :World} {o:Obj} {c:Nat} (h:(w.alloc o).grownBy w' (Value.slice (some ⟨w.heap.size,0,none⟩) 1 c).ownBlock):Below w.heap.size w w' :=by
 refine (zf w o).grown h (by simp) ?_
 intro k hk
 simp [Value.ownBlock] at hk
 omega
theorem zji {n d:Nat} (hd:0<d) (h:n<1000000000*d):n / d<1000000000/\n / d*d<=n/\n<(n / d+1)*d:=by
 refine ⟨Nat.div_lt_of_lt_mul (by rw [Nat.mul_comm];exact h),Nat.div_mul_le_self _ _,?_⟩
 have h1:=Nat.div_add_mod n d
 have h2:=Nat.mod_lt n hd
 rw [Nat.add_mul,Nat.one_mul,Nat.mul_comm]
 omega
theorem zmo {n d q:Nat} (hn:n<1000000000000000000) (hd:0<d) (hq:q=n / d):wrap64 ((n:Int) / (d:Int))=(q:Int):=by
 have e:(n:Int) / (d:Int)=(q:Int):=by rw [hq];rfl
 have h1:q<=n:=by rw [hq];exact Nat.div_le_self _ _
 rw [e]
 unfold wrap64
 omega
theorem V3 {lo hi:Nat} (h:lo<hi):lo<(lo+hi+1) / 2/\(lo+hi+1) / 2<=hi:=by omega
theorem vt {n:Nat} (h:0<n) (h2:n<1000000000):len 1000000000 n=1:=by
 unfold len
 rw [Zm (by omega) h,Nat.div_eq_of_lt h2,Za];rfl
theorem Yi (va vb:Value) (a b:Nat) (w:World) (ha:zz w va a) (hb:zz w vb b) (hb0:0<b) (hla:len 1000000000 a<=33554432) (hlb:len 1000000000 b<=33554432):
 Calls Tryz.prog 204 #[va,vb] w (zpv w (a / b) (a % b)):=by
 have ha' :=ha
 have hb' :=hb
 have HLA:=ze hla
 have HLB:=ze hlb
 have hord:=fun w h1 h2=>vF va vb a b w h1 h2 (Nat.le_trans hla (by omega)) (Nat.le_trans hlb (by omega))
 obtain ⟨A,ca,da,rfl,h1,h2,hra,h4,hva⟩:=ha
 obtain ⟨B,cb,db,rfl,k1,k2,hrb,k4,hvb⟩:=hb
 rw [<- hva, <- h4.length_eq (by omega)] at hla
 rw [<- hvb, <- k4.length_eq (by omega)] at hlb
 have hsa:=h4.1
 have HA' :=ze ha'
 have HB' :=ze hb'
 have HB0:=ze hb0
 have HVA:=ze hva
 have HVB:=ze hvb
 have HK4:=ze k4
 obtain ⟨i0,hi0,hz0,hz1,hz2⟩:=info_parts zck
 by_cases hlt:a<b
 . have e1:zK (a:Int) b= -1:=by unfold zK;rw [if_pos (by omega)]
   rw [e1] at hord;rw [Nat.div_eq_of_lt hlt,Nat.mod_eq_of_lt hlt];clear e1 hlt hva hvb h4 k4 ha' hb' hb0
   go_enter Tryz.func204,Tryz.ntmps204
   go_wp2_with fail;refine (hord _ HA'.out HB'.out).mono ?_;rintro e w1 ⟨rfl,n,rfl⟩;go_wp2_with fail;go_ret2;exact ⟨_,_,rfl,zg5 _,HA'.out.below (zw _ _),zw _ _⟩
 . have hc:∃ c:Int,zK (a:Int) b=c/\¬ c<0:=by
    unfold zK;rw [if_neg (by omega)]
    split
    . exact ⟨1,rfl,by omega⟩
    . exact ⟨0,rfl,by omega⟩
   obtain ⟨c0,hc0,hcn⟩:=hc;rw [hc0] at hord;have hmk:=fun w=>zo2 .i64 da.length (by omega) w
   clear hc0 hlt hva hvb h4 k4 ha' hb' hb0
   go_enter Tryz.func204,Tryz.ntmps204
   go_wp2_with fail;refine (hord _ HA'.out HB'.out).mono ?_;rintro e w1 ⟨rfl,n,rfl⟩;clear hord;go_wp2_with fail
   go_loopw [7,8] (znb da b w) (fun _ iv _=>(intOf iv+1).toNat)
   case atStart=>
    refine ⟨da.length,0,List.replicate da.length 0,Nat.le_refl _,rfl,zg5 _,HB0.out,by simp,zD.replicate (by omega) _,?_,?_,?_,?_⟩
    . intro p _
      rw [List.getD_eq_getElem?_getD,List.getElem?_replicate]
      split<;>rfl
    . show _=_
      rw [List.drop_length,List.drop_of_length_le (by simp),vk];omega
    . exact (Blk.new _ _ _)
    . exact ext (zw w n) (zf _ _)
   case round=>
    obtain ⟨k,r,Q,hk,rfl,hrs,HR,hQ,hsQ,HZ,HV,hblk,hbl⟩:=hrel
    by_cases hk0:0<k
    . obtain ⟨wo,ewo⟩:∃ wo:World,wo=wr:=⟨_,rfl⟩
      subst ewo;have hka:k - 1<da.length:=by omega
      obtain ⟨ada,u,rfl,hba,hx,hcell⟩:=hra.at_ (k:=k - 1) hka;rw [xR hka] at hx;injection hx with hx
      subst hx;have hcella:=(hbl.cell (p:=ada.add (k - 1)) (by rw [zF];exact hba)).trans hcell;have hi:((k:Int) - 1).toNat=k - 1:=by omega
      have hx1:da[k - 1]<1000000000:=hsa.get (k - 1) hka;have hx1' :=hrs;obtain ⟨R0,cr,dr,rfl,r1,r2,hrr,r4,hvr⟩:=hrs
      have hdl:dr.length<=33554432:=by
       have h5:val 1000000000 dr<val 1000000000 db:=by rw [hvr,HVB.out];exact HR.out
       have:=yJ.length_le (by omega) r4 HK4.out (Nat.le_of_lt h5)
       omega
      have hown1:(wo.alloc (.cells #[.int .i64 ((da[k - 1]:Nat):Int)] 3)).ownsRow wo.heap.size 3 1 (.slice (some ⟨wo.heap.size,0,none⟩) 1 1) 1 (Zp [da[k - 1]]):=zqi (Nat.le_refl _);have hrr' :=(hrr.below (zf wo (.cells #[.int .i64 ((da[k - 1]:Nat):Int)] 3)));have h1c:=za2 dr;have HVR:=ze hvr;have HR4:=ze r4;clear hvr r4 hx1' r1 r2 hcell;go_wp2_with (at_builtin;refine yj _ rfl (.tmp 32) (.tmp 33) _ rfl wo.heap.size 3 i0 _ 1 8 Tryz.underlying96 hi0 hz0 hz1 hz2 rfl (by omega) _ 1 (Zp [da[k - 1]]) rfl hown1 _ R0 dr.length cr (Zp dr) rfl hrr' h1c ?o2 ?o3 ?o4 ?_)
      case o2=>unfold maxLen;omega
      case o3=>omega
      case o4=>simp
      intro v3 w3 hown3 hgr3 hat3;have hown3' :w3.ownsRow wo.heap.size 3 1 v3 (1+dr.length) (Zp (da[k - 1] :: dr)):=hown3;obtain ⟨g,cg,rfl,hgb,hcg,hcm,hrd⟩:=zif hown3' (by omega);have hgq:w.heap.size<g:=by have:=hblk.lt;omega
      have hb3:Below wo.heap.size wo w3:=zj7 hgr3;have hbl3:=ext hbl hb3;have hblk3:=hblk.below hb3 hblk.lt;have hs3:zD 1000000000 (da[k - 1] :: dr):=zD.cons hx1 HR4.out.1;have HCM:=ze hcm;have HV3:=ze (show val 1000000000 (da[k - 1] :: dr)=da[k - 1]+1000000000*r by rw [ZU,HVR.out]);have HX1:=ze hx1;clear hown3 hown3' hgr3 hat3 hcm hown1 hrr' hrr h1c hcella hb3 hbl hblk;go_wp2_with fail;refine (zb0 _ _ _ _ _ _ hrd hs3 hcg HCM.out).mono ?_;rintro e w4 ⟨kr,rfl,hrs,rfl⟩;rw [HV3.out] at hrs;obtain ⟨R,hRR⟩:∃ R,R=da[k - 1]+1000000000*r:=⟨_,rfl⟩;rw [<- hRR] at hrs;have HRR:=ze hRR;have HRS:=ze hrs;have hRb:R<1000000000*b:=by have:=HR.out;have:=HX1.out;omega
      have hlR:len 1000000000 R<=33554433:=by
       have h5:=xS (β:=1000000000) (by omega) (Nat.le_of_lt hRb);have h6:=X6 (β:=1000000000) (by omega) 1000000000 b
       have h7:len 1000000000 1000000000=2:=by
        unfold len;rw [Zm (by omega) (by omega),Zm (by omega) (by omega),Za];rfl
       have h8:=HLB.out
       have h9:R<1000000000 ^ (len 1000000000 b+1):=by
        rw [Nat.pow_succ,Nat.mul_comm];exact Nat.lt_of_lt_of_le hRb (Nat.mul_le_mul (Nat.le_refl _) (Nat.le_of_lt (xH (by omega) b)))
       exact Nat.le_trans (yt (by omega) h9) (by omega)
      have HLR:=ze hlR;have HRB:=ze hRb;have hord:=fun w h1 h2=>vF (.slice (some ⟨g,0,none⟩) kr cg) (.slice B db.length cb) R b w h1 h2 (Nat.le_trans HLR.out (by omega)) (Nat.le_trans HLB.out (by omega))
      have HBL:=ze hbl3;have HBK:=ze hblk3;have HB3:=ze (zz.below HB'.out hbl3);clear hrs hRR hrd hs3 hcg hlR hRb hbl3 hblk3
      by_cases hlt:R<b
      . have e1:zK (R:Int) b= -1:=by unfold zK;rw [if_pos (by omega)]
        rw [e1] at hord;have HLT:=ze hlt;clear e1 hlt;go_wp2_with fail;refine (hord _ HRS.out HB3.out).mono ?_;rintro e w5 ⟨rfl,n5,rfl⟩;go_wp2_with fail;go_roundw
        case rel=>exact znb.skip hk0 hk hQ hsQ HZ HV (HBK.out.drewN n5) (zl HBL.out n5) (by rw [<- HRR.out];exact zz.below HRS.out (zw _ n5)) (by rw [<- HRR.out];exact HLT.out) (by go_num)
        case measure=>simp [intOf];omega
      . have hc:∃ c:Int,zK (R:Int) b=c/\¬ c<0:=by
         unfold zK;rw [if_neg (by omega)]
         split
         . exact ⟨1,rfl,by omega⟩
         . exact ⟨0,rfl,by omega⟩
        obtain ⟨c1,hc1,hcn1⟩:=hc;rw [hc1] at hord;have hrs0:=HRS.out;have HGE:=ze hlt;clear hc1 hlt
        by_cases hb1:db.length=1
        . have hb1I:((db.length:Int) == 1)=true:=by rw [hb1];rfl
          have hdb0:db[0]'(by omega)=b:=by
           rw [<- HVB.out]
           match db,hb1 with
           | [x],_=>simp [val]
          have hb9:b<1000000000:=by rw [<- hdb0];exact HK4.out.1.get 0 (by omega)
          obtain ⟨adb,u,rfl,hbb,hx,hcellb⟩:=hrb.at_ (k:=0) (by omega);rw [xR (by omega),hdb0] at hx;injection hx with hx
          subst hx;obtain ⟨A',c',ds,e,j1,j2,j3,j4,j5⟩:=hrs0;injection e with e1 e2 e3
          subst e1 e2 e3;have hRx:R<1000000000 ^ 2:=by have:=HRB.out;have:1000000000*b<=1000000000*1000000000:=Nat.mul_le_mul (Nat.le_refl _) (by omega);omega
          have hdl2:ds.length<=2:=yJ.length_lt_pow (by omega) j4 (by rw [j5];exact hRx);have hcb:w3.cell? adb=some (.int .i64 (b:Int)):=(HBL.out.cell (p:=adb) hbb).trans (by have:=hcellb;simpa [Addr.add] using this);have hbz:¬ b=0:=by have:=HB0.out;omega
          have hbz' :((b:Int) == 0)=false:=by rw [beq_eq_false_iff_ne];omega
          have hbz2:¬ (b:Int)=0:=by omega
          have hdp:0<db.length:=by omega
          have hpp:(1000000000:Nat) ^ 2=1000000000000000000:=by decide
          have hR18:R<1000000000000000000:=by rw [hpp] at hRx;exact hRx
          clear hpp;have HQ9:=ze (zji (n:=R) (d:=b) HB0.out HRB.out);obtain ⟨q0,hq0⟩:∃ q0,q0=R / b:=⟨_,rfl⟩;rw [<- hq0] at HQ9;have HW9:=ze (zmo hR18 HB0.out hq0);clear hRx hcellb hdb0 hq0 hb9
          match ds,hdl2,j3,j4,j5,HRS,HR4,hord with
          | [],_,_,_,j5,_,_,_=>exact absurd (show R=0 from j5.symm) (by have:=HGE.out;have:=HB0.out;omega)
          | [y0],_,j3,j4,j5,HRS,_,hord=>
            have hy:y0=R:=by rw [<- j5,ZH]
            subst hy;have hcy:=ZG j3 0 (.int .i64 (y0:Int)) (by simp [Zp]);have hgl:=HRS.out.lt9 (by simp)
            simp [Addr.add] at hcy
            clear j3 j4 j5 hb1;go_wp2_with fail;refine (hord _ HRS.out HB3.out).mono ?_;rintro e w5 ⟨rfl,n5,rfl⟩;go_wp2_with fail
            go_quiet (fail)
            rw [HW9.out];go_wp2_with fail
            go_loopw [9,10] (zs2 b y0 Q w (.slice (some ⟨g,0,none⟩) [y0].length cg)) (fun lv hv _=>(intOf hv - intOf lv).toNat)
            case atStart=>exact ⟨q0,q0,Nat.le_refl _,HQ9.out.1,rfl,rfl,ze HQ9.out.2.1,ze HQ9.out.2.2,zz.below HRS.out (ext (zw _ n5) (zw _ nq)),(HBK.out.drewN n5).drewN nq,zl (zl HBL.out n5) nq⟩
            case round=>
             clear HRS HBK HBL HB3;obtain ⟨lo,hi,hle,hhi,rfl,rfl,HLO,HHI,hrs2,hblk2,hbl2⟩:=hrel
             by_cases hlh:lo<hi
             . obtain ⟨mid,hmid⟩:∃ mid,mid=(lo+hi+1) / 2:=⟨_,rfl⟩
               obtain ⟨m1,m2⟩:=V3 hlh;rw [<- hmid] at m1 m2;have hmI:((lo:Int)+(hi:Int)+1) / 2=(mid:Int):=by omega
               have hbw:=zf wr (.cells #[.int .i64 (mid:Int)] 3);have HT:=ze (fun h1=>vu (.slice (some adb) db.length cb) _ b mid (wr.alloc (.cells #[.int .i64 (mid:Int)] 3)) (zz.below HB'.out (ext hbl2 hbw)) (zav wr (by omega) (by omega)) (Nat.le_trans HLB.out (by omega)) h1);have HLM:=ze (show len 1000000000 mid<=67108864 by rw [vt (by omega) (by omega)];omega);have HLP:=ze (show len 1000000000 (b*mid)<=67108864 from Nat.le_trans (X6 (by omega) _ _) (by have:=HLB.out;rw [vt (n:=mid) (by omega) (by omega)];omega));have HK2:=ze (hblk2.below hbw hblk2.lt);have HW2:=ze (ext hbl2 hbw);have HRSa:=ze (zz.below hrs2 hbw);clear hmid hrs2 hblk2 hbl2 hbw
               by_cases hcm:b*mid<=y0
               . have hc1:∃ c:Int,zK ((b*mid:Nat):Int) (y0:Int)=c/\c<=0:=by
                  unfold zK
                  by_cases h9:b*mid<y0
                  . exact ⟨-1,by rw [if_pos (by omega)],by omega⟩
                  . exact ⟨0,by rw [if_neg (by omega),if_neg (by omega)],by omega⟩
                 obtain ⟨c1,hc1,hc2⟩:=hc1;have HC1:=ze hc1;have HCM:=ze (show mid*b<=y0 by rw [Nat.mul_comm];exact hcm);clear hc1 hcm;go_wp2_with fail;refine (HT.out HLM.out).mono ?_;rintro e w6 ⟨v6,rfl,hv6,hb6⟩;have HO:=ze (vF v6 (.slice (some ⟨g,0,none⟩) [y0].length cg) (b*mid) y0 w6 hv6 (zz.below HRSa.out hb6) HLP.out (Nat.le_trans HLR.out (by omega)));have HK6:=ze (HK2.out.below hb6 HK2.out.lt);have HW6:=ze (ext HW2.out hb6);have HR6:=ze (zz.below HRSa.out hb6);clear hv6 hb6;rw [HC1.out] at HO;go_wp2_with fail;refine HO.out.mono ?_;rintro e w7 ⟨rfl,n7,rfl⟩;go_wp2_with fail;go_roundw
                 case rel=>exact ⟨mid,hi,m2,hhi,rfl,rfl,HCM,HHI,zz.below HR6.out (zw _ n7),HK6.out.drewN n7,zl HW6.out n7⟩
                 case measure=>simp [intOf];omega
               . have HC1:=ze (show zK ((b*mid:Nat):Int) (y0:Int)=1 by unfold zK;rw [if_neg (by omega),if_pos (by omega)])
                 have HCM:=ze (show y0<(mid - 1+1)*b by rw [show mid - 1+1=mid by omega,Nat.mul_comm];omega);clear hcm;go_wp2_with fail;refine (HT.out HLM.out).mono ?_;rintro e w6 ⟨v6,rfl,hv6,hb6⟩;have HO:=ze (vF v6 (.slice (some ⟨g,0,none⟩) [y0].length cg) (b*mid) y0 w6 hv6 (zz.below HRSa.out hb6) HLP.out (Nat.le_trans HLR.out (by omega)));have HK6:=ze (HK2.out.below hb6 HK2.out.lt);have HW6:=ze (ext HW2.out hb6);have HR6:=ze (zz.below HRSa.out hb6);clear hv6 hb6;rw [HC1.out] at HO;go_wp2_with fail;refine HO.out.mono ?_;rintro e w7 ⟨rfl,n7,rfl⟩;go_wp2_with fail;go_roundw
                 case rel=>exact ⟨lo,mid - 1,by omega,by omega,rfl,congrArg _ (by omega),HLO,HCM,zz.below HR6.out (zw _ n7),HK6.out.drewN n7,zl HW6.out n7⟩
                 case measure=>simp [intOf];omega
             . obtain rfl:lo=hi:=by omega
               have hfr:=hblk2.frozen (k - 1);have hlg:=hblk2.lt;have hcq:=(hblk2.cell (k - 1)).trans (Yz (by omega));have hkl:(k:Int) - 1<(da.length:Int):=by omega
               have hbw:Below w.heap.size w (wr.setCell ⟨w.heap.size,k - 1,none⟩ (.int .i64 (lo:Int))):=hbl2.setCell (Nat.le_refl _) _;have hkq:=hblk2.set_ (k - 1) (.int .i64 (lo:Int));rw [Yt] at hkq;have hrq:=zf0 (q:=w.heap.size) (i:=k - 1) (u:=.int .i64 (lo:Int)) hrs2 (by omega);have HW2:=ze hbw;have HK2:=ze hkq;have HR2:=ze hrq;clear hblk2 hbl2 hrs2 hbw hkq hrq hlh;have hs2:(wr.setCell ⟨w.heap.size,k - 1,none⟩ (.int .i64 (lo:Int))).heap.size=wr.heap.size:=by simp [World.setCell]
               have HS2:=ze hs2;have HD:=ze (And.intro hhi (And.intro HLO.out HHI.out));clear hs2 HLO HHI;go_wp2_with fail;rw [<- HS2.out];generalize wr.setCell ⟨w.heap.size,k - 1,none⟩ (.int .i64 (lo:Int))=W2 at HW2 HK2 HR2 HS2 |-;clear hcq hfr hlg;have hbw:=zf W2 (.cells #[.int .i64 (lo:Int)] 3);have hml:1<=maxLen:=by unfold maxLen;decide
               refine (Zz _ 1 1 [lo] _ _ (xj W2 3 (.int .i64 (lo:Int))) (fun x hx=>by rw [List.mem_singleton] at hx;have:=HD.out.1;omega) (Nat.le_refl _) hml).mono ?_;rintro e w8 ⟨vd,rfl,hvd,rfl⟩;rw [ZH] at hvd;have HVD:=ze (show zz _ vd lo from (Xj.more hvd (by simp)));have HW8:=ze (ext HW2.out hbw);have HK8:=ze (HK2.out.below hbw HK2.out.lt);have HR8:=ze (zz.below HR2.out hbw);clear hvd hbw hml HW2 HK2 HR2;have HLD:=ze (show len 1000000000 lo<=67108864 from Nat.le_trans (yt (k:=1) (by omega) (by have:=HD.out.1;omega)) (by omega));go_wp2_with fail;refine (vu _ vd b lo _ (zz.below HB'.out HW8.out) HVD.out (Nat.le_trans HLB.out (by omega)) HLD.out).mono ?_;rintro e w9 ⟨v9,rfl,hv9,hb9⟩;have HV9:=ze hv9;have HW9:=ze (ext HW8.out hb9);have HK9:=ze (HK8.out.below hb9 HK8.out.lt);have HR9:=ze (zz.below HR8.out hb9);clear hv9 hb9 HW8 HK8 HR8;go_wp2_with fail;refine (YM _ v9 y0 (b*lo) w9 HR9.out HV9.out (by rw [Nat.mul_comm];exact HD.out.2.1) (Nat.le_trans HLR.out (by omega))).mono ?_;rintro e w10 ⟨v10,rfl,hv10,hb10⟩;have HV10:=ze hv10;have HW10:=ze (ext HW9.out hb10)
               have HK10:=ze (HK9.out.below hb10 HK9.out.lt);clear hv10 hb10 HW9 HK9 HR9;go_wp2_with fail;go_roundw
               case rel=>exact znb.digit hk0 hk hQ hsQ HZ HV HB0.out HK10.out HW10.out HD.out.1 (by rw [<- HRR.out];exact HD.out.2.1) (by rw [<- HRR.out];exact HD.out.2.2) (by rw [<- HRR.out];exact HV10.out) (by go_num)
               case measure=>simp [intOf];omega
          | [y0,y1],_,j3,j4,j5,HRS,_,hord=>
            have hy:y0+y1*1000000000=R:=by rw [<- j5];simp [val];omega
            have hyI:(y0:Int)+(y1:Int)*1000000000=(R:Int):=by omega
            have hcy:=ZG j3 0 (.int .i64 (y0:Int)) (by simp [Zp]);have hcy1:=ZG j3 1 (.int .i64 (y1:Int)) (by simp [Zp]);have hgl:=HRS.out.lt9 (by simp)
            simp [Addr.add] at hcy hcy1
            have hy9:y0<1000000000:=by have:=j4.1.get 0 (by simp);simpa using this
            have hy19:y1<1000000000:=by have:=j4.1.get 1 (by simp);simpa using this
            clear j3 j4 j5 hb1 hy;go_wp2_with fail;refine (hord _ HRS.out HB3.out).mono ?_;rintro e w5 ⟨rfl,n5,rfl⟩;go_wp2_with fail
            go_quiet (fail)
            rw [HW9.out];go_wp2_with fail
            go_loopw [9,10] (zs2 b R Q w (.slice (some ⟨g,0,none⟩) [y0,y1].length cg)) (fun lv hv _=>(intOf hv - intOf lv).toNat)
            case atStart=>exact ⟨q0,q0,Nat.le_refl _,HQ9.out.1,rfl,rfl,ze HQ9.out.2.1,ze HQ9.out.2.2,zz.below HRS.out (ext (zw _ n5) (zw _ nq)),(HBK.out.drewN n5).drewN nq,zl (zl HBL.out n5) nq⟩
            case round=>
             clear HRS HBK HBL HB3;obtain ⟨lo,hi,hle,hhi,rfl,rfl,HLO,HHI,hrs2,hblk2,hbl2⟩:=hrel
             by_cases hlh:lo<hi
             . obtain ⟨mid,hmid⟩:∃ mid,mid=(lo+hi+1) / 2:=⟨_,rfl⟩
               obtain ⟨m1,m2⟩:=V3 hlh;rw [<- hmid] at m1 m2;have hmI:((lo:Int)+(hi:Int)+1) / 2=(mid:Int):=by omega
               have hbw:=zf wr (.cells #[.int .i64 (mid:Int)] 3);have HT:=ze (fun h1=>vu (.slice (some adb) db.length cb) _ b mid (wr.alloc (.cells #[.int .i64 (mid:Int)] 3)) (zz.below HB'.out (ext hbl2 hbw)) (zav wr (by omega) (by omega)) (Nat.le_trans HLB.out (by omega)) h1);have HLM:=ze (show len 1000000000 mid<=67108864 by rw [vt (by omega) (by omega)];omega);have HLP:=ze (show len 1000000000 (b*mid)<=67108864 from Nat.le_trans (X6 (by omega) _ _) (by have:=HLB.out;rw [vt (n:=mid) (by omega) (by omega)];omega));have HK2:=ze (hblk2.below hbw hblk2.lt);have HW2:=ze (ext hbl2 hbw);have HRSa:=ze (zz.below hrs2 hbw);clear hmid hrs2 hblk2 hbl2 hbw
               by_cases hcm:b*mid<=R
               . have hc1:∃ c:Int,zK ((b*mid:Nat):Int) (R:Int)=c/\c<=0:=by
                  unfold zK
                  by_cases h9:b*mid<R
                  . exact ⟨-1,by rw [if_pos (by omega)],by omega⟩
                  . exact ⟨0,by rw [if_neg (by omega),if_neg (by omega)],by omega⟩
                 obtain ⟨c1,hc1,hc2⟩:=hc1;have HC1:=ze hc1;have HCM:=ze (show mid*b<=R by rw [Nat.mul_comm];exact hcm);clear hc1 hcm;go_wp2_with fail;refine (HT.out HLM.out).mono ?_;rintro e w6 ⟨v6,rfl,hv6,hb6⟩;have HO:=ze (vF v6 (.slice (some ⟨g,0,none⟩) [y0,y1].length cg) (b*mid) R w6 hv6 (zz.below HRSa.out hb6) HLP.out (Nat.le_trans HLR.out (by omega)));have HK6:=ze (HK2.out.below hb6 HK2.out.lt);have HW6:=ze (ext HW2.out hb6);have HR6:=ze (zz.below HRSa.out hb6);clear hv6 hb6;rw [HC1.out] at HO;go_wp2_with fail;refine HO.out.mono ?_;rintro e w7 ⟨rfl,n7,rfl⟩;go_wp2_with fail;go_roundw
                 case rel=>exact ⟨mid,hi,m2,hhi,rfl,rfl,HCM,HHI,zz.below HR6.out (zw _ n7),HK6.out.drewN n7,zl HW6.out n7⟩
                 case measure=>simp [intOf];omega
               . have HC1:=ze (show zK ((b*mid:Nat):Int) (R:Int)=1 by unfold zK;rw [if_neg (by omega),if_pos (by omega)])
                 have HCM:=ze (show R<(mid - 1+1)*b by rw [show mid - 1+1=mid by omega,Nat.mul_comm];omega);clear hcm;go_wp2_with fail;refine (HT.out HLM.out).mono ?_;rintro e w6 ⟨v6,rfl,hv6,hb6⟩;have HO:=ze (vF v6 (.slice (some ⟨g,0,none⟩) [y0,y1].length cg) (b*mid) R w6 hv6 (zz.below HRSa.out hb6) HLP.out (Nat.le_trans HLR.out (by omega)));have HK6:=ze (HK2.out.below hb6 HK2.out.lt);have HW6:=ze (ext HW2.out hb6);have HR6:=ze (zz.below HRSa.out hb6);clear hv6 hb6;rw [HC1.out] at HO;go_wp2_with fail;refine HO.out.mono ?_;rintro e w7 ⟨rfl,n7,rfl⟩;go_wp2_with fail;go_roundw
                 case rel=>exact ⟨lo,mid - 1,by omega,by omega,rfl,congrArg _ (by omega),HLO,HCM,zz.below HR6.out (zw _ n7),HK6.out.drewN n7,zl HW6.out n7⟩
                 case measure=>simp [intOf];omega
             . obtain rfl:lo=hi:=by omega
               have hfr:=hblk2.frozen (k - 1);have hlg:=hblk2.lt;have hcq:=(hblk2.cell (k - 1)).trans (Yz (by omega));have hkl:(k:Int) - 1<(da.length:Int):=by omega
               have hbw:Below w.heap.size w (wr.setCell ⟨w.heap.size,k - 1,none⟩ (.int .i64 (lo:Int))):=hbl2.setCell (Nat.le_refl _) _;have hkq:=hblk2.set_ (k - 1) (.int .i64 (lo:Int));rw [Yt] at hkq;have hrq:=zf0 (q:=w.heap.size) (i:=k - 1) (u:=.int .i64 (lo:Int)) hrs2 (by omega);have HW2:=ze hbw;have HK2:=ze hkq;have HR2:=ze hrq;clear hblk2 hbl2 hrs2 hbw hkq hrq hlh;have hs2:(wr.setCell ⟨w.heap.size,k - 1,none⟩ (.int .i64 (lo:Int))).heap.size=wr.heap.size:=by simp [World.setCell]
               have HS2:=ze hs2;have HD:=ze (And.intro hhi (And.intro HLO.out HHI.out));clear hs2 HLO HHI;go_wp2_with fail;rw [<- HS2.out];generalize wr.setCell ⟨w.heap.size,k - 1,none⟩ (.int .i64 (lo:Int))=W2 at HW2 HK2 HR2 HS2 |-;clear hcq hfr hlg;have hbw:=zf W2 (.cells #[.int .i64 (lo:Int)] 3);have hml:1<=maxLen:=by unfold maxLen;decide
               refine (Zz _ 1 1 [lo] _ _ (xj W2 3 (.int .i64 (lo:Int))) (fun x hx=>by rw [List.mem_singleton] at hx;have:=HD.out.1;omega) (Nat.le_refl _) hml).mono ?_;rintro e w8 ⟨vd,rfl,hvd,rfl⟩;rw [ZH] at hvd;have HVD:=ze (show zz _ vd lo from (Xj.more hvd (by simp)));have HW8:=ze (ext HW2.out hbw);have HK8:=ze (HK2.out.below hbw HK2.out.lt);have HR8:=ze (zz.below HR2.out hbw);clear hvd hbw hml HW2 HK2 HR2;have HLD:=ze (show len 1000000000 lo<=67108864 from Nat.le_trans (yt (k:=1) (by omega) (by have:=HD.out.1;omega)) (by omega));go_wp2_with fail;refine (vu _ vd b lo _ (zz.below HB'.out HW8.out) HVD.out (Nat.le_trans HLB.out (by omega)) HLD.out).mono ?_;rintro e w9 ⟨v9,rfl,hv9,hb9⟩;have HV9:=ze hv9;have HW9:=ze (ext HW8.out hb9);have HK9:=ze (HK8.out.below hb9 HK8.out.lt);have HR9:=ze (zz.below HR8.out hb9);clear hv9 hb9 HW8 HK8 HR8;go_wp2_with fail;refine (YM _ v9 R (b*lo) w9 HR9.out HV9.out (by rw [Nat.mul_comm];exact HD.out.2.1) (Nat.le_trans HLR.out (by omega))).mono ?_;rintro e w10 ⟨v10,rfl,hv10,hb10⟩;have HV10:=ze hv10;have HW10:=ze (ext HW9.out hb10)
               have HK10:=ze (HK9.out.below hb10 HK9.out.lt);clear hv10 hb10 HW9 HK9 HR9;go_wp2_with fail;go_roundw
               case rel=>exact znb.digit hk0 hk hQ hsQ HZ HV HB0.out HK10.out HW10.out HD.out.1 (by rw [<- HRR.out];exact HD.out.2.1) (by rw [<- HRR.out];exact HD.out.2.2) (by rw [<- HRR.out];exact HV10.out) (by go_num)
               case measure=>simp [intOf];omega
          | _ :: _ :: _ :: _,hdl2,_,_,_,_,_,_=>simp at hdl2
        . have hb1I:((db.length:Int) == 1)=false:=by rw [beq_eq_false_iff_ne];omega
          clear hb1 hrs0;go_wp2_with fail;refine (hord _ HRS.out HB3.out).mono ?_;rintro e w5 ⟨rfl,n5,rfl⟩;go_wp2_with fail
          go_loopw [9,10] (zs2 b R Q w (.slice (some ⟨g,0,none⟩) kr cg)) (fun lv hv _=>(intOf hv - intOf lv).toNat)
          case atStart=>exact ⟨0,999999999,by omega,by omega,rfl,rfl,ze (by omega),ze (by have:=HRB.out;omega),zz.below HRS.out (zw _ n5),HBK.out.drewN n5,zl HBL.out n5⟩
          case round=>
           clear HRS HBK HBL HB3;obtain ⟨lo,hi,hle,hhi,rfl,rfl,HLO,HHI,hrs2,hblk2,hbl2⟩:=hrel
           by_cases hlh:lo<hi
           . obtain ⟨mid,hmid⟩:∃ mid,mid=(lo+hi+1) / 2:=⟨_,rfl⟩
             obtain ⟨m1,m2⟩:=V3 hlh;rw [<- hmid] at m1 m2;have hmI:((lo:Int)+(hi:Int)+1) / 2=(mid:Int):=by omega
             have hbw:=zf wr (.cells #[.int .i64 (mid:Int)] 3);have HT:=ze (fun h1=>vu (.slice B db.length cb) _ b mid (wr.alloc (.cells #[.int .i64 (mid:Int)] 3)) (zz.below HB'.out (ext hbl2 hbw)) (zav wr (by omega) (by omega)) (Nat.le_trans HLB.out (by omega)) h1);have HLM:=ze (show len 1000000000 mid<=67108864 by rw [vt (by omega) (by omega)];omega);have HLP:=ze (show len 1000000000 (b*mid)<=67108864 from Nat.le_trans (X6 (by omega) _ _) (by have:=HLB.out;rw [vt (n:=mid) (by omega) (by omega)];omega));have HK2:=ze (hblk2.below hbw hblk2.lt);have HW2:=ze (ext hbl2 hbw);have HRSa:=ze (zz.below hrs2 hbw);clear hmid hrs2 hblk2 hbl2 hbw
             by_cases hcm:b*mid<=R
             . have hc1:∃ c:Int,zK ((b*mid:Nat):Int) (R:Int)=c/\c<=0:=by
                unfold zK
                by_cases h9:b*mid<R
                . exact ⟨-1,by rw [if_pos (by omega)],by omega⟩
                . exact ⟨0,by rw [if_neg (by omega),if_neg (by omega)],by omega⟩
               obtain ⟨c1,hc1,hc2⟩:=hc1;have HC1:=ze hc1;have HCM:=ze (show mid*b<=R by rw [Nat.mul_comm];exact hcm);clear hc1 hcm;go_wp2_with fail;refine (HT.out HLM.out).mono ?_;rintro e w6 ⟨v6,rfl,hv6,hb6⟩;have HO:=ze (vF v6 (.slice (some ⟨g,0,none⟩) kr cg) (b*mid) R w6 hv6 (zz.below HRSa.out hb6) HLP.out (Nat.le_trans HLR.out (by omega)));have HK6:=ze (HK2.out.below hb6 HK2.out.lt);have HW6:=ze (ext HW2.out hb6);have HR6:=ze (zz.below HRSa.out hb6);clear hv6 hb6;rw [HC1.out] at HO;go_wp2_with fail;refine HO.out.mono ?_;rintro e w7 ⟨rfl,n7,rfl⟩;go_wp2_with fail;go_roundw
               case rel=>exact ⟨mid,hi,m2,hhi,rfl,rfl,HCM,HHI,zz.below HR6.out (zw _ n7),HK6.out.drewN n7,zl HW6.out n7⟩
               case measure=>simp [intOf];omega
             . have HC1:=ze (show zK ((b*mid:Nat):Int) (R:Int)=1 by unfold zK;rw [if_neg (by omega),if_pos (by omega)])
               have HCM:=ze (show R<(mid - 1+1)*b by rw [show mid - 1+1=mid by omega,Nat.mul_comm];omega);clear hcm;go_wp2_with fail;refine (HT.out HLM.out).mono ?_;rintro e w6 ⟨v6,rfl,hv6,hb6⟩;have HO:=ze (vF v6 (.slice (some ⟨g,0,none⟩) kr cg) (b*mid) R w6 hv6 (zz.below HRSa.out hb6) HLP.out (Nat.le_trans HLR.out (by omega)));have HK6:=ze (HK2.out.below hb6 HK2.out.lt);have HW6:=ze (ext HW2.out hb6);have HR6:=ze (zz.below HRSa.out hb6);clear hv6 hb6;rw [HC1.out] at HO;go_wp2_with fail;refine HO.out.mono ?_;rintro e w7 ⟨rfl,n7,rfl⟩;go_wp2_with fail;go_roundw
               case rel=>exact ⟨lo,mid - 1,by omega,by omega,rfl,congrArg _ (by omega),HLO,HCM,zz.below HR6.out (zw _ n7),HK6.out.drewN n7,zl HW6.out n7⟩
               case measure=>simp [intOf];omega
           . obtain rfl:lo=hi:=by omega
             have hfr:=hblk2.frozen (k - 1);have hlg:=hblk2.lt;have hcq:=(hblk2.cell (k - 1)).trans (Yz (by omega));have hkl:(k:Int) - 1<(da.length:Int):=by omega
             have hbw:Below w.heap.size w (wr.setCell ⟨w.heap.size,k - 1,none⟩ (.int .i64 (lo:Int))):=hbl2.setCell (Nat.le_refl _) _;have hkq:=hblk2.set_ (k - 1) (.int .i64 (lo:Int));rw [Yt] at hkq;have hrq:=zf0 (q:=w.heap.size) (i:=k - 1) (u:=.int .i64 (lo:Int)) hrs2 (by omega);have HW2:=ze hbw;have HK2:=ze hkq;have HR2:=ze hrq;clear hblk2 hbl2 hrs2 hbw hkq hrq hlh;have hs2:(wr.setCell ⟨w.heap.size,k - 1,none⟩ (.int .i64 (lo:Int))).heap.size=wr.heap.size:=by simp [World.setCell]
             have HS2:=ze hs2;have HD:=ze (And.intro hhi (And.intro HLO.out HHI.out));clear hs2 HLO HHI;go_wp2_with fail;rw [<- HS2.out];generalize wr.setCell ⟨w.heap.size,k - 1,none⟩ (.int .i64 (lo:Int))=W2 at HW2 HK2 HR2 HS2 |-;clear hcq hfr hlg;have hbw:=zf W2 (.cells #[.int .i64 (lo:Int)] 3);have hml:1<=maxLen:=by unfold maxLen;decide
             refine (Zz _ 1 1 [lo] _ _ (xj W2 3 (.int .i64 (lo:Int))) (fun x hx=>by rw [List.mem_singleton] at hx;have:=HD.out.1;omega) (Nat.le_refl _) hml).mono ?_;rintro e w8 ⟨vd,rfl,hvd,rfl⟩;rw [ZH] at hvd;have HVD:=ze (show zz _ vd lo from (Xj.more hvd (by simp)));have HW8:=ze (ext HW2.out hbw);have HK8:=ze (HK2.out.below hbw HK2.out.lt);have HR8:=ze (zz.below HR2.out hbw);clear hvd hbw hml HW2 HK2 HR2;have HLD:=ze (show len 1000000000 lo<=67108864 from Nat.le_trans (yt (k:=1) (by omega) (by have:=HD.out.1;omega)) (by omega));go_wp2_with fail;refine (vu _ vd b lo _ (zz.below HB'.out HW8.out) HVD.out (Nat.le_trans HLB.out (by omega)) HLD.out).mono ?_;rintro e w9 ⟨v9,rfl,hv9,hb9⟩;have HV9:=ze hv9;have HW9:=ze (ext HW8.out hb9);have HK9:=ze (HK8.out.below hb9 HK8.out.lt);have HR9:=ze (zz.below HR8.out hb9);clear hv9 hb9 HW8 HK8 HR8;go_wp2_with fail;refine (YM _ v9 R (b*lo) w9 HR9.out HV9.out (by rw [Nat.mul_comm];exact HD.out.2.1) (Nat.le_trans HLR.out (by omega))).mono ?_;rintro e w10 ⟨v10,rfl,hv10,hb10⟩;have HV10:=ze hv10;have HW10:=ze (ext HW9.out hb10)
             have HK10:=ze (HK9.out.below hb10 HK9.out.lt);clear hv10 hb10 HW9 HK9 HR9;go_wp2_with fail;go_roundw
             case rel=>exact znb.digit hk0 hk hQ hsQ HZ HV HB0.out HK10.out HW10.out HD.out.1 (by rw [<- HRR.out];exact HD.out.2.1) (by rw [<- HRR.out];exact HD.out.2.2) (by rw [<- HRR.out];exact HV10.out) (by go_num)
             case measure=>simp [intOf];omega
    . obtain rfl:k=0:=by omega
      have hrd:=VD hblk;rw [hQ] at hrd
      have HE:=ze (show val 1000000000 Q=a / b/\r=a % b by
       have h1:=HV.out;rw [List.drop_zero,List.drop_zero,HVA.out] at h1;have h2:=HR.out;have h3:=HB0.out
       constructor
       . rw [h1,Nat.mul_comm,Nat.mul_add_div h3,Nat.div_eq_of_lt h2];rfl
       . rw [h1,Nat.mul_comm,Nat.mul_add_mod,Nat.mod_eq_of_lt h2])
      have hcl:da.length<=maxLen:=by unfold maxLen;omega
      have HCL:=ze hcl;clear hcl;go_wp2_with (go_at_call 202;refine (Zz _ _ _ _ _ _ hrd hsQ (Nat.le_refl _) HCL.out).mono ?_;rintro e w' ⟨v,rfl,hnat,rfl⟩);go_ret2;exact ⟨v,_,rfl,by rw [<- HE.out.1];exact hnat,by rw [<- HE.out.2];exact hrs,hbl⟩
def zr7 (β:Nat) (w:World) (v:Value):Nat:=match v with
 | .slice (some ad) n _=>val β ((List.range n).map fun i=>match w.cell? (ad.add i) with
   | some (.int _ z)=>z.toNat
   | _=>0)
 | _=>0
def zem (w:World) (v:Value):Nat:=zr7 1000000000 w v
theorem zfb {w:World} {v:Value} {n:Nat} (h:zz w v n):zem w v=n:=by
 obtain ⟨A,c,ds,rfl,h1,h2,h3,h4,rfl⟩:=h
 unfold zem zr7
 rcases A with _ | ad
 . have hz:ds=[]:=by
    apply List.eq_nil_of_length_eq_zero
    rcases Nat.eq_zero_or_pos ds.length with h | h
    . exact h
    . obtain ⟨ad,e,_⟩:=h3.2 h
      cases e
   subst hz;rfl
 . simp only
   congr 1
   apply List.ext_getElem
   . simp
   . intro i h5 h6
     have:=ZG h3 i _ (xR h6)
     simp [this]
def ComR (w:World) (G:Nat) (v0 v1:Value) (wr:World):Prop:=
 ∃ x y:Nat,zz wr v0 x/\zz wr v1 y/\Hid (Nat.gcd x y=G)/\Hid (len 1000000000 x<=33554432)/\Hid (len 1000000000 y<=33554432)/\Below w.heap.size w wr
theorem zjn (va vb:Value) (a b:Nat) (w:World) (ha:zz w va a) (hb:zz w vb b) (hla:len 1000000000 a<=33554432) (hlb:len 1000000000 b<=33554432):
 Calls Tryz.prog 203 #[va,vb] w (zbv w (Nat.gcd a b)):=by
 have HLA:=ze hla
 have HLB:=ze hlb
 clear hla hlb
 go_enter Tryz.func203,Tryz.ntmps203
 go_wp2
 go_loopw [0,1] (ComR w (Nat.gcd a b)) (fun _ v1 wr=>zem wr v1)
 case atStart=>exact ⟨a,b,ha,hb,rfl,HLA,HLB,Below.refl _ _⟩
 case round=>
  obtain ⟨x,y,hx,hy,HG,HLX,HLY,hbl⟩:=hrel
  have hyv:=zfb hy
  have hyN:=hy
  obtain ⟨B,cb,db,rfl,k1,k2,hrb,k4,hvb⟩:=hy
  have HYV:=ze hyv
  have HVB:=ze hvb
  have hl1:=k4.length_eq (β:=1000000000) (by omega)
  rw [hvb] at hl1
  have hdm:db.length<=33554432:=by rw [hl1];exact HLY.out
  clear hyv hvb hl1 k2
  by_cases hz:db.length=0
  . have hd:db=[]:=List.eq_nil_of_length_eq_zero hz
    have hy0:y=0:=by have:=HVB.out;rw [hd,vk] at this;omega
    have hg:x=Nat.gcd a b:=by have:=HG.out;rw [hy0,Nat.gcd_zero_right] at this;exact this
    have HGG:=ze hg;have hzI:¬ (0:Int)<(db.length:Int):=by omega
    clear hd hy0 hg hz;go_wp2;go_ret;exact ⟨_,rfl,by rw [<- HGG.out];exact hx,hbl⟩
  . have hpos:0<db.length:=by omega
    have hyp:0<y:=by
     rcases Nat.eq_zero_or_pos y with e | e
     . exfalso
       have h:=HVB.out;rw [e] at h;have:=(k4.zero_iff (by omega)).1 h;rw [this] at hpos;simp at hpos
     . exact e
    have HZ:=ze hz;have hdv:=ze (Yi _ (.slice B db.length cb) x y wr hx hyN hyp HLX.out HLY.out);clear hz;go_wp2_with (go_at_call 204;refine (zI hdv).mono ?_;rintro e w1 ⟨v1,v2,rfl,hv1,hv2,hbl1⟩);go_roundw
    case rel=>
     refine ⟨y,x % y,zz.below hyN hbl1,hv2,?_,HLY,?_,hbl.trans (hbl1.mono hbl.size)⟩
     . show _=_
       rw [<- HG.out,Nat.gcd_comm x y,Nat.gcd_rec y x,Nat.gcd_comm]
     . exact Nat.le_trans (xS (by omega) (Nat.le_of_lt (Nat.mod_lt _ hyp))) HLY.out
    case measure=>
     show zem w1 v2<zem wr (.slice B db.length cb)
     rw [zfb hv2,HYV.out];exact Nat.mod_lt _ hyp
def vV (w:World) (v:Value) (q:Rat):Prop:=
 ∃ ng A n c B m d,v= .agg #[.bool ng,.slice A n c,.slice B m d]/\ng=decide (q.num<0)/\zz w (.slice A n c) q.num.natAbs/\zz w (.slice B m d) q.den
theorem vV.below {w w' :World} {v:Value} {q:Rat} (h:vV w v q) (hb:Below w.heap.size w w'):vV w' v q:=by
 obtain ⟨ng,A,n,c,B,m,d,h1,h2,h3,h4⟩:=h
 exact ⟨ng,A,n,c,B,m,d,h1,h2,zz.below h3 hb,zz.below h4 hb⟩
def Xo (w:World) (q:Rat) (e:Ending) (w' :World):Prop:=∃ v,e= .returned v/\vV w' v q/\Below w.heap.size w w'
abbrev World.ref (w:World) (g:Nat) (ng:Bool) (A:Option Addr) (n c:Nat) (B:Option Addr) (m d:Nat):World:=
 ((w.setCell ⟨g,0,none⟩ (.bool ng)).setCell ⟨g,1,none⟩ (.slice A n c)).setCell ⟨g,2,none⟩ (.slice B m d)
def zrz (cs:Array Value):Prop:=∀ (i:Nat) (d:Int),cs[i]?≠some (.int .i64 d)
theorem zrb (ng:Bool) (A:Option Addr) (n c:Nat) (B:Option Addr) (m d:Nat):zrz #[.bool ng,.slice A n c,.slice B m d]:=by
 intro i z h
 match i with
 | 0=>simp at h
 | 1=>simp at h
 | 2=>simp at h
 | n+3=>simp at h
theorem zz.stored {w w' :World} {g:Nat} {t:TypeId} {cs:Array Value} {v:Value} {n:Nat} (h:zz w v n) (hb:Blk w g t cs) (hno:zrz cs)
 (hk:∀ p:Addr,p.block≠g->w'.cell? p=w.cell? p) (hs:w.heap.size<=w'.heap.size):zz w' v n:=by
 obtain ⟨A,c',ds,rfl,h1,h2,h3,h4,h5⟩:=h
 refine ⟨A,c',ds,rfl,h1,h2,⟨h3.1,?_⟩,h4,h5⟩
 intro hn
 obtain ⟨ad,rfl,hlt,hc⟩:=h3.2 hn
 have hne:ad.block≠g:=by
  intro e
  have h0:=hc 0 _ (xR hn)
  unfold World.cell? at h0
  rw [zF,e,show w.heap[g]?=_ from hb] at h0
  simp only at h0
  split at h0
  . cases h0
  . exact hno _ _ h0
 exact ⟨ad,rfl,by omega,fun j u hu=>(hk _ (by rw [zF];exact hne)).trans (hc j u hu)⟩
section
variable {W w:World} {g:Nat} {t:TypeId} {ng n0:Bool} {A B A0 B0:Option Addr} {n c m d k0 c0 k1 c1 x:Nat} {v:Value}
theorem yN (hk:Blk W g t #[.bool n0,.slice A0 k0 c0,.slice B0 k1 c1]):Blk (World.ref W g ng A n c B m d) g t #[.bool ng,.slice A n c,.slice B m d]:=((hk.set_ 0 _).set_ 1 _).set_ 2 _
theorem ye (hv:zz W v x) (hk:Blk W g t #[.bool n0,.slice A0 k0 c0,.slice B0 k1 c1]):zz (World.ref W g ng A n c B m d) v x:=by
 refine hv.stored hk (zrb _ _ _ _ _ _ _) ?_ (by simp [World.ref,World.setCell])
 intro p hp
 simp only [World.ref]
 rw [World.cell?_setCell_other,World.cell?_setCell_other,World.cell?_setCell_other]
 all_goals (intro e;subst e;exact hp rfl)
theorem y8 (h:Below w.heap.size w W) (hg:w.heap.size<=g):Below w.heap.size w (World.ref W g ng A n c B m d):=((h.setCell hg _).setCell hg _).setCell hg _
theorem zpw {g' :Nat} {cs:Array Value} (hk:Blk W g t cs) (hne:g≠g'):Blk (World.ref W g' ng A n c B m d) g t cs:=((hk.far hne _).far hne _).far hne _
end
theorem zz.form {w:World} {v:Value} {n:Nat} (h:zz w v n):∃ A c,v= .slice A (len 1000000000 n) c:=by
 obtain ⟨A,c,ds,rfl,h1,h2,h3,h4,rfl⟩:=h
 exact ⟨A,c,by rw [h4.length_eq (by omega)]⟩
theorem zdb (z:Int) (m:Nat) (hm:0<m):(Rat.divInt z m).num=z.tdiv ((Nat.gcd z.natAbs m:Nat):Int)/\((Rat.divInt z m).den:Int)=(m:Int) / ((Nat.gcd z.natAbs m:Nat):Int):=by
 have e:(m:Int).gcd z=Nat.gcd z.natAbs m:=by show Nat.gcd _ _=_;rw [Int.natAbs_natCast,Nat.gcd_comm]
 have hs:(m:Int).sign=1:=Int.sign_eq_one_of_pos (by omega)
 constructor
 . rw [Rat.num_divInt,e,hs,Int.one_mul,Int.tdiv_eq_ediv_of_dvd]
   exact Int.ofNat_dvd_left.2 (Nat.gcd_dvd_left _ _)
 . rw [Rat.den_divInt,if_neg (by omega),e,Int.natAbs_natCast]
   rfl
theorem ze1 (neg:Bool) (n d:Nat) (hd:0<d):
 (x9 neg n d).num.natAbs=n / Nat.gcd n d/\(x9 neg n d).den=d / Nat.gcd n d/\decide ((x9 neg n d).num<0)=(neg && decide (n≠0)):=by
 have hg:0<Nat.gcd n d:=Nat.gcd_pos_of_pos_right _ hd
 have hab:(if neg=true then -(n:Int) else n).natAbs=n:=by cases neg<;>simp
 obtain ⟨p1,p2⟩:=zdb (if neg=true then -(n:Int) else n) d hd
 rw [hab] at p1 p2
 have e1:(x9 neg n d).num=(if neg=true then -(n:Int) else n).tdiv ((Nat.gcd n d:Nat):Int):=p1
 have e2:((x9 neg n d).den:Int)=(d:Int) / ((Nat.gcd n d:Nat):Int):=p2
 refine ⟨?_,?_,?_⟩
 . rw [e1,Int.natAbs_tdiv,hab];rfl
 . have:(d:Int) / ((Nat.gcd n d:Nat):Int)=((d / Nat.gcd n d:Nat):Int):=rfl
   omega
 . rw [e1]
   have h1:0<n->0<n / Nat.gcd n d:=fun h=>Nat.div_pos (Nat.le_of_dvd h (Nat.gcd_dvd_left _ _)) hg
   cases neg with
   | true=>
     simp only [if_true,Int.neg_tdiv,Bool.true_and];have h2:((n:Int)).tdiv ((Nat.gcd n d:Nat):Int)=((n / Nat.gcd n d:Nat):Int):=rfl;rw [h2];rw [Bool.eq_iff_iff,decide_eq_true_iff,decide_eq_true_iff]
     constructor
     . intro h h0;rw [h0,Nat.zero_div] at h;omega
     . intro h;have:=h1 (by omega);omega
   | false=>
     have h2:(if false=true then -(n:Int) else n).tdiv ((Nat.gcd n d:Nat):Int)=((n / Nat.gcd n d:Nat):Int):=rfl;rw [h2,Bool.false_and,decide_eq_false_iff_not];exact Int.not_lt.2 (Int.natCast_nonneg _)
theorem zz.first {w:World} {A:Option Addr} {k c n:Nat} (h:zz w (.slice A k c) n) (hn:len 1000000000 n=1):∃ ad,A=some ad/\k=1/\ad.block<w.heap.size/\w.cell? ad=some (.int .i64 (n:Int)):=by
 obtain ⟨A',c',ds,e,h1,h2,h3,h4,rfl⟩:=h
 injection e with e1 e2 e3
 subst e1 e2 e3
 rw [<- h4.length_eq (by omega)] at hn
 match ds,hn,h3 with
 | [x],_,h3=>
   obtain ⟨ad,u,rfl,hb,hx,hc⟩:=h3.at_ (k:=0) (by simp)
   simp [Zp] at hx
   subst hx;rw [ZH];exact ⟨ad,rfl,rfl,hb,by simpa [Addr.add] using hc⟩
theorem Z8 (neg:Bool) (va vb:Value) (n d:Nat) (w:World) (ha:zz w va n) (hb:zz w vb d) (hd:0<d) (hla:len 1000000000 n<=33554432) (hlb:len 1000000000 d<=33554432):
 Calls Tryz.prog 156 #[.bool neg,va,vb] w (Xo w (x9 neg n d)):=by
 obtain ⟨A,c,rfl⟩:=ha.form
 obtain ⟨B,c',rfl⟩:=hb.form
 obtain ⟨L1,L2,L3⟩:=ze1 neg n d hd
 have hWR:=zf w (.cells #[.bool false,.slice none 0 0,.slice none 0 0] 98)
 have kR:=Blk.new w 98 #[.bool false,.slice none 0 0,.slice none 0 0]
 have HA:=ze (zz.below ha hWR)
 have HB:=ze (zz.below hb hWR)
 have HW:=ze hWR
 have HK:=ze kR
 have HL1:=ze L1
 have HL2:=ze L2
 have HL3:=ze L3
 have HLA:=ze hla
 have HLB:=ze hlb
 have HD:=ze hd
 clear ha hb hWR kR L1 L2 L3 hlb
 by_cases hn:n=0
 . have hl0:((len 1000000000 n:Int) == 0)=true:=by rw [hn,YV];rfl
   have HN:=ze hn;clear hn
   go_enter Tryz.func156,Tryz.ntmps156
   go_wp2_with fail;refine bodyPost_ret (v:=.agg #[.bool false,.slice none 0 0,.slice (some ⟨w.heap.size+1,0,none⟩) 1 1]) (by simp [results,Tryz.results156,go_sem]) rfl ?_;have h1:=zav (w.alloc (.cells #[.bool false,.slice none 0 0,.slice (some ⟨w.heap.size+1,0,none⟩) 1 1] 98)) (d:=1) (by omega) (by omega);simp only [World.size_alloc] at h1;refine ⟨_,rfl,⟨false,none,0,0,_,1,1,rfl,?_,?_,?_⟩,ext (zf _ _) (zf _ _)⟩
   . rw [HL3.out,HN.out];simp
   . rw [HL1.out,HN.out,Nat.zero_div];exact zg5 _
   . rw [HL2.out,HN.out,Nat.gcd_zero_left,Nat.div_self HD.out];exact h1
 . have hl0:((len 1000000000 n:Int) == 0)=false:=by rw [beq_eq_false_iff_ne];have:=Vo (β:=1000000000) (n:=n) (by omega) (by omega);omega
   have hcm:=fun w h1 h2=>zjn (.slice A (len 1000000000 n) c) (.slice B (len 1000000000 d) c') n d w h1 h2 HLA.out HLB.out
   have HN:=ze hn;clear hn
   go_enter Tryz.func156,Tryz.ntmps156
   go_wp2_with fail;refine (hcm _ HA.out HB.out).mono ?_;rintro e w1 ⟨vg,rfl,hvg,hb1⟩;obtain ⟨C,cg,rfl⟩:=hvg.form;obtain ⟨G,hG⟩:∃ G,G=Nat.gcd n d:=⟨_,rfl⟩;rw [<- hG] at hvg;have HGG:=ze hG;have hG0:0<G:=by rw [hG];exact Nat.gcd_pos_of_pos_right _ HD.out
   have hGl:len 1000000000 G<=33554432:=by rw [hG];exact Nat.le_trans (xS (by omega) (Nat.gcd_le_right _ HD.out)) HLB.out
   rw [<- hG];have HVG:=ze hvg;have HG0:=ze hG0;have HGL:=ze hGl;have HA1:=ze (zz.below HA.out hb1);have HB1:=ze (zz.below HB.out hb1);have HK1:=ze (HK.out.below hb1 HK.out.lt);have HW1:=ze (ext HW.out hb1);have r0:=HK1.out.cell 0;have r1:=HK1.out.cell 1;have r2:=HK1.out.cell 2;have f0:=HK1.out.frozen 0;have f1:=HK1.out.frozen 1;have f2:=HK1.out.frozen 2;have lr:=HK1.out.lt;simp at r0 r1 r2;clear hG hG0 hGl hvg hb1 HA HB HW HK hcm
   by_cases h1:G=1
   . subst h1
     obtain ⟨adg,rfl,hg1,hgb,hgc⟩:=HVG.out.first (vt (by omega) (by omega));rw [hg1]
     have HRES:=ze (show (x9 neg n d).num.natAbs=n/\(x9 neg n d).den=d/\decide ((x9 neg n d).num<0)=neg by
      rw [HL1.out,HL2.out,HL3.out, <- HGG.out,Nat.div_one,Nat.div_one,decide_eq_true HN.out,Bool.and_true];exact ⟨rfl,rfl,rfl⟩)
     clear hg1;go_wp2_with fail;have kR2:=yN (ng:=neg) (A:=A) (n:=(len 1000000000 n)) (c:=c) (B:=B) (m:=(len 1000000000 d)) (d:=c') HK1.out;have e0:=kR2.cell 0;have e1:=kR2.cell 1;have e2:=kR2.cell 2;simp only [World.ref] at e0 e1 e2;simp at e0 e1 e2;refine bodyPost_ret (v:=.agg #[.bool neg,.slice A ((len 1000000000 n)) c,.slice B ((len 1000000000 d)) c']) (by simp [results,Tryz.results156,go_sem,e0,e1,e2]) rfl ?_;refine ⟨_,rfl,⟨_,_,_,_,_,_,_,rfl,?_,?_,?_⟩,y8 (w:=w) (g:=w.heap.size) HW1.out (Nat.le_refl _)⟩
     . exact HRES.out.2.2.symm
     . rw [HRES.out.1];exact ye HA1.out HK1.out
     . rw [HRES.out.2.1];exact ye HB1.out HK1.out
   . by_cases hg1:len 1000000000 G=1
     . obtain ⟨adg,rfl,hgk,hgb,hgc⟩:=HVG.out.first hg1
       have hgI:((G:Int) == 1)=false:=by rw [beq_eq_false_iff_ne];omega
       rw [hgk] at HVG |-;clear h1 hgk hg1;go_wp2_with fail;refine (Yi _ _ n G _ HA1.out HVG.out HG0.out HLA.out HGL.out).mono ?_;rintro e w2 ⟨q1,q2,rfl,hq1,_,hb2⟩;have HQ1:=ze hq1;have HB2:=ze (zz.below HB1.out hb2);have HVG2:=ze (zz.below HVG.out hb2);have HK2:=ze (HK1.out.below hb2 HK1.out.lt);have HW2:=ze (ext HW1.out hb2);clear hq1 hb2 r0 r1 r2 f0 f1 f2 lr;go_wp2_with fail;refine (Yi _ _ d G w2 HB2.out HVG2.out HG0.out HLB.out HGL.out).mono ?_;rintro e w3 ⟨q3,q4,rfl,hq3,_,hb3⟩;have hq1:=zz.below HQ1.out hb3;obtain ⟨A5,c5,rfl⟩:=hq1.form;obtain ⟨B5,d5,rfl⟩:=hq3.form;have HQ1' :=ze hq1;have HQ3:=ze hq3;have HK3:=ze (HK2.out.below hb3 HK2.out.lt);have HW3:=ze (ext HW2.out hb3);have r0:=HK3.out.cell 0;have r1:=HK3.out.cell 1;have r2:=HK3.out.cell 2;have f0:=HK3.out.frozen 0;have f1:=HK3.out.frozen 1;have f2:=HK3.out.frozen 2;have lr:=HK3.out.lt;simp at r0 r1 r2;clear hq1 hq3 hb3;go_wp2_with fail;have kR2:=yN (ng:=neg) (A:=A5) (n:=(len 1000000000 (n / G))) (c:=c5) (B:=B5) (m:=(len 1000000000 (d / G))) (d:=d5) HK3.out;have e0:=kR2.cell 0;have e1:=kR2.cell 1
       have e2:=kR2.cell 2;simp only [World.ref] at e0 e1 e2;simp at e0 e1 e2;refine bodyPost_ret (v:=.agg #[.bool neg,.slice A5 ((len 1000000000 (n / G))) c5,.slice B5 ((len 1000000000 (d / G))) d5]) (by simp [results,Tryz.results156,go_sem,e0,e1,e2]) rfl ?_;refine ⟨_,rfl,⟨_,_,_,_,_,_,_,rfl,?_,?_,?_⟩,y8 (w:=w) (g:=w.heap.size) HW3.out (Nat.le_refl _)⟩
       . rw [HL3.out,decide_eq_true HN.out,Bool.and_true]
       . rw [HL1.out, <- HGG.out];exact ye HQ1'.out HK3.out
       . rw [HL2.out, <- HGG.out];exact ye HQ3.out HK3.out
     . have hlI:((len 1000000000 G:Int) == 1)=false:=by rw [beq_eq_false_iff_ne];omega
       clear h1 hg1;go_wp2_with fail;refine (Yi _ _ n G _ HA1.out HVG.out HG0.out HLA.out HGL.out).mono ?_;rintro e w2 ⟨q1,q2,rfl,hq1,_,hb2⟩;have HQ1:=ze hq1;have HB2:=ze (zz.below HB1.out hb2);have HVG2:=ze (zz.below HVG.out hb2);have HK2:=ze (HK1.out.below hb2 HK1.out.lt);have HW2:=ze (ext HW1.out hb2);clear hq1 hb2 r0 r1 r2 f0 f1 f2 lr;go_wp2_with fail;refine (Yi _ _ d G w2 HB2.out HVG2.out HG0.out HLB.out HGL.out).mono ?_;rintro e w3 ⟨q3,q4,rfl,hq3,_,hb3⟩;have hq1:=zz.below HQ1.out hb3;obtain ⟨A5,c5,rfl⟩:=hq1.form;obtain ⟨B5,d5,rfl⟩:=hq3.form;have HQ1' :=ze hq1;have HQ3:=ze hq3;have HK3:=ze (HK2.out.below hb3 HK2.out.lt);have HW3:=ze (ext HW2.out hb3);have r0:=HK3.out.cell 0;have r1:=HK3.out.cell 1;have r2:=HK3.out.cell 2;have f0:=HK3.out.frozen 0;have f1:=HK3.out.frozen 1;have f2:=HK3.out.frozen 2;have lr:=HK3.out.lt;simp at r0 r1 r2;clear hq1 hq3 hb3;go_wp2_with fail;have kR2:=yN (ng:=neg) (A:=A5) (n:=(len 1000000000 (n / G))) (c:=c5) (B:=B5) (m:=(len 1000000000 (d / G))) (d:=d5) HK3.out;have e0:=kR2.cell 0;have e1:=kR2.cell 1;have e2:=kR2.cell 2
       simp only [World.ref] at e0 e1 e2;simp at e0 e1 e2;refine bodyPost_ret (v:=.agg #[.bool neg,.slice A5 ((len 1000000000 (n / G))) c5,.slice B5 ((len 1000000000 (d / G))) d5]) (by simp [results,Tryz.results156,go_sem,e0,e1,e2]) rfl ?_;refine ⟨_,rfl,⟨_,_,_,_,_,_,_,rfl,?_,?_,?_⟩,y8 (w:=w) (g:=w.heap.size) HW3.out (Nat.le_refl _)⟩
       . rw [HL3.out,decide_eq_true HN.out,Bool.and_true]
       . rw [HL1.out, <- HGG.out];exact ye HQ1'.out HK3.out
       . rw [HL2.out, <- HGG.out];exact ye HQ3.out HK3.out
end Go.Proofs.YtkmcmmcencdcpaaGreatDoor
