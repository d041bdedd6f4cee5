/- Parts of the proof. -/
import Derived.Test.YthbmhkiphmcogaaGreatDoorMe35
import Derived.Test.YthbmhkiphmcogaaGreatDoorMe37
set_option linter.all false
namespace Go.Proofs.YthbmhkiphmcogaaGreatDoor
open Proofs.Tryz Go.RowKit Go.Deep
attribute [local go_sem ↓] Go.wp_at_zero Go.wp_at_succ
section
variable {base m L:Nat} {F:ya} {w:World} {T:yE}
theorem yi.noDigS (h:yi base m L F w T) (x:Nat) (hx:F.S m x):zZ w x:=by
 rcases hx with rfl | ⟨i,hi,rfl⟩ | e | e
 . obtain ⟨⟨x,A,n,c,ng,b,_⟩,_⟩:=id h
   exact b.noDig (zfw (xN h.bas) (xN h.oth))
 . exact (h.mat.rows i (by omega)).2.noDig
 . exact h.bas.2 _ e
 . exact h.oth.2 _ e
theorem yi.ltS (h:yi base m L F w T) (x:Nat) (hx:F.S m x):base<=x/\x<w.heap.size:=by
 rcases hx with rfl | ⟨i,hi,rfl⟩ | e | e
 . exact ⟨h.lo,h.lt⟩
 . exact ⟨(h.mat.rows i (by omega)).1,(h.mat.rows i (by omega)).2.lt⟩
 . exact h.bas.1.lt _ e
 . exact h.oth.1.lt _ e
theorem yi.neS (h:yi base m L F w T) {g:Nat} {cs:Array Value} (hg:w.heap[g]?=some (.cells cs 53 (0,0))) (hr:∀ i,i<=m->F.g i≠g):¬ F.S m g:=by
 rintro (rfl | ⟨i,hi,e⟩ | e | e)
 . obtain ⟨⟨x,A,n,c,ng,b,_⟩,_⟩:=id h
   exact yX b hg (by decide) rfl
 . exact hr i hi e.symm
 . obtain ⟨j,k2⟩:=h.bas.heap e
   rw [hg] at k2;injection k2 with k2
   injection k2 with _ k3 _
   exact absurd k3 (by decide)
 . obtain ⟨j,k2⟩:=h.oth.heap e
   rw [hg] at k2;injection k2 with k2
   injection k2 with _ k3 _
   exact absurd k3 (by decide)
end
theorem zaa.chg {S:Nat->Prop} {w w' :World} {g n:Nat} {f:Nat->Int} (h:zaa w g n f) (hc:Chg S w w') (hg:¬ S g) (hS:∀ b,S b->zZ w b):zaa w' g n f:=⟨Nat.lt_of_lt_of_le h.1 hc.size,fun k hk=>(h.2 k hk).chg hc hg hS⟩
def zvf (rows:List zQ) (names:List (List UInt8)) (goal:List zR):yE:=
 (zq7 rows names).aimed rows.length (zcf (zq7 rows names) names rows.length (2*names.length+2) (vH goal) goal goal.length)
structure zty (rows:List zQ) (names:List (List UInt8)) (goal:List zR) (n:Nat) (U:yE):Prop where
 rok:∀ r∈rows,zwa names r
 m0:0<rows.length
 mm:rows.length<=10000
 nn:names.length<=400
 feas:∀ i,i<rows.length->0<=(zq7 rows names).cell i 0
 fit:(zq7 rows names).Fits rows.length (2*names.length+2)
 aim:zu4 (zq7 rows names) names rows.length (2*names.length+2) goal
 fit2:(zvf rows names goal).Fits rows.length (2*names.length+2)
 way:Vm rows.length (2*names.length+2) (2*names.length+rows.length) ((2*names.length+rows.length:Nat):Int) n (zvf rows names goal) U 0
 fitU:U.Fits rows.length (2*names.length+2)
 bas:∀ i,i<rows.length->(2*names.length<=U.basic i/\U.basic i<=1000000)\/∃ k,U.basic i=2*k/\k<names.length
 vl:∀ i j,i<=rows.length->j<names.length->Z9 8388608 (ze0 U names.length i j)
 vv:∀ i,i<rows.length->Z9 8388608 (Rat.divInt (U.cell i 0) U.den)
 oth:∀ k,k<2*names.length+1->U.other k<=1000000
 scl:∀ i,i<rows.length->Fit (znr rows i)
def zxa (rows:List zQ) (names:List (List UInt8)) (nv:Value) (goal:List zR) (U:yE) (b:Nat) (w:World) (e:Ending) (w' :World):Prop:=
 ∃ (x:Int) (A:Option Addr) (n c:Nat) (s:Bool) (y:Int) (B:Option Addr) (n' c' :Nat) (t:Bool) (gp gw:Nat),e= .returned (.agg #[.int .u8 1,.int .i64 x,.slice A n c,.bool s,.int .i64 y,.slice B n' c',.bool t,.slice (some ⟨gp,0,none⟩) names.length names.length,.slice none 0 0,.slice (some ⟨gw,0,none⟩) rows.length rows.length])/\
  yc w' (.agg #[.int .i64 x,.slice A n c,.bool s,.int .i64 y,.slice B n' c',.bool t]) (Rat.divInt (U.cell rows.length 0) (U.den*vH goal))/\xo w' gp names.length names.length (ze0 U names.length rows.length)/\
  xo w' gw rows.length rows.length (wtN U names.length rows.length (znr rows) (vH goal) (2*names.length+1))/\zF w' w.heap.size nv names/\Chg (· =b) w w'
set_option maxRecDepth 100000 in
set_option maxHeartbeats 8000000 in
theorem zfs (b n1 c n2 nc n3 c3 n:Nat) (rA nA gA:Option Addr) (rows:List zQ) (names:List (List UInt8)) (goal:List zR) (U:yE) (w:World) (hB:zB w b) (hr:yN w (.slice rA n1 c) rows) (hn:zF w w.heap.size (.slice nA n2 nc) names) (hg:vr w (.slice gA n3 c3) goal)
 (hok:zty rows names goal n U):Calls Tryz.prog 28 #[.map (some b),.slice rA n1 c,.slice nA n2 nc,.slice gA n3 c3] w (zxa rows names (.slice nA n2 nc) goal U b w):=by
 obtain rfl:=hn.len
 obtain rfl:=hr.len
 have E:=zf w (.cells #[.int .u8 0,.int .i64 0,.slice none 0 0,.bool false,.int .i64 0,.slice none 0 0,.bool false,.slice none 0 0,.slice none 0 0,.slice none 0 0] 80)
 have j:=ze (Blk.new w 80 #[.int .u8 0,.int .i64 0,.slice none 0 0,.bool false,.int .i64 0,.slice none 0 0,.bool false,.slice none 0 0,.slice none 0 0,.slice none 0 0])
 have Q:=ze (hB.below E)
 have HR:=ze ((zT.below hr E).more E.size)
 have I:=ze (hn.below E)
 have HG:=ze (zk.below hg E)
 have J:Hid (Chg (· =b) w (w.alloc (.cells #[.int .u8 0,.int .i64 0,.slice none 0 0,.bool false,.int .i64 0,.slice none 0 0,.bool false,.slice none 0 0,.slice none 0 0,.slice none 0 0] 80))):=Chg.of_below E
 have G:=ze hok
 have bU:=ze hB.lt
 clear hB hr hn hg hok E
 go_enter func28,ntmps28
 go_upto_region 1 with fail
 have Z:Hid (w.heap.size<(w.alloc (.cells #[.int .u8 0,.int .i64 0,.slice none 0 0,.bool false,.int .i64 0,.slice none 0 0,.bool false,.slice none 0 0,.slice none 0 0,.slice none 0 0] 80)).heap.size):=by show _<_;simp
 generalize w.alloc (.cells #[.int .u8 0,.int .i64 0,.slice none 0 0,.bool false,.int .i64 0,.slice none 0 0,.bool false,.slice none 0 0,.slice none 0 0,.slice none 0 0] 80)=W0 at j Q HR I HG J Z |-
 obtain ⟨C,aN⟩:∃ C,C=w.heap.size:=⟨_,rfl⟩
 rw [<- aN] at j |-
 have aq:=ze aN
 clear aN
 have bK:=G.o.mm
 have bM:=G.o.nn
 have aG:=G.o.m0
 have bh:=zjm b rows.length c names.length nc rA nA rows names W0 Q.o HR.o (I.o.more (Nat.le_of_lt Z.o)) G.o.rok aG bK bM
 have aZ:=ze bh
 clear bh
 obtain ⟨base,bw⟩:∃ base,base=W0.heap.size:=⟨_,rfl⟩
 have Y:=ze bw
 clear bw
 go_wp2_with fail
 refine aZ.o.mono ?_
 rintro e w1 ⟨F,O,cs,rfl,N⟩
 clear aZ
 have bJ:∀ x,x=b->zZ W0 x:=fun x e=>by subst e;exact Q.o.noDig
 replace j:=ze (Q.o.keepBlk N.chg j.o)
 replace I:=ze (I.o.chg N.chg (fun _ _ e=>by subst e;exact Q.o.noCells))
 replace HG:=ze (Q.o.keepT N.chg HG.o)
 replace J:=ze (vm J.o N.chg)
 replace Q:=ze N.book
 have m:=ze N.tab
 rw [<- Y.o] at m
 have R:=ze N.scl
 have aU:=ze N.sne
 have bB:=ze N.sty
 have au:Hid (F.bk=some b/\F.nA=nA/\F.nn=names.length/\F.nc=nc):=⟨N.bk,N.nA,N.nn,N.nc⟩
 have bj:Hid (base<=w1.heap.size):=by have:=N.chg.size;have:=Y.o;show _<=_;omega
 clear bJ N HR
 have aS:=zei base rows.length (2*names.length+2) F (zq7 rows names) w1 m.o G.o.feas (by omega) (by omega)
 have aR:=ze aS
 clear aS
 go_wp2_with fail
 refine aR.o.mono ?_
 rintro e w2 ⟨rfl,bC,D⟩
 clear aR
 replace j:=kb_ j D
 replace I:=ze (I.o.below D)
 replace HG:=ze (zk.below HG.o D)
 replace J:=ze (yh J.o D)
 replace Q:=ze (Q.o.below D)
 replace m:=ze bC
 replace R:=ze (R.o.below D)
 have aP:Hid (∃ cs,w2.heap[O]?=some (.cells cs 53 (0,0))):=by
  obtain ⟨cs,h⟩:=bB.o
  have hl:O<w1.heap.size:=by
   obtain ⟨h1,h2⟩:=Array.getElem?_eq_some_iff.1 h;exact h1
  exact ⟨cs,(D.block O hl).trans h⟩
 have aJ:Hid (base<=w2.heap.size):=Nat.le_trans bj.o D.size
 clear D bC bB bj
 have bv:zF w2 base (.slice F.nA F.nn F.nc) names:=by
  have h1:=au.o
  rw [h1.2.1,h1.2.2.1,h1.2.2.2]
  exact I.o.more (by have:=Z.o;have:=Y.o;omega)
 have a6:=zmn base rows.length (2*names.length+2) F (zq7 rows names) b gA n3 c3 goal names w2 m.o au.o.1 Q.o (HG.o.more J.o.size) bv G.o.aim G.o.fit (by omega) aG (by omega) aJ.o
 have aW:=ze a6
 have ar:=ze (show base<=F.gm/\F.gm<w2.heap.size from m.o.mat.lt)
 have bF:=ze (fun i (hi:i<=rows.length)=>(m.o.mat.rows i (by omega)).2.lt)
 have bi:Hid (∃ cs,w2.heap[F.gm]?=some (.cells cs 119 (0,0))):=m.o.mat.own.heap rfl
 clear a6 bv
 go_wp2_with fail
 refine aW.o.mono ?_
 rintro e w3 ⟨v,gl,rfl,hv,bm,bG,bI,ab,bN⟩
 clear aW
 obtain ⟨l,av⟩:∃ l,l=zvw F rows.length gl:=⟨_,rfl⟩
 have ad:Hid (l.nn=names.length/\l.gt=F.gt):=by rw [av];exact ⟨au.o.2.2.1,rfl⟩
 have bp:∀ x,(x=b\/x=F.gm)->zZ w2 x:=fun x e=>by
  rcases e with rfl | rfl
  . exact Q.o.noDig
  . exact m.o.mat.own.2 _ rfl
 have aC:¬ (O=b\/O=F.gm):=by
  obtain ⟨cs,h⟩:=aP.o
  obtain ⟨bS,h2⟩:=bi.o
  rintro (e | e)
  . exact Q.o.ne h e
  . rw [e,h2] at h
    injection h with h
    injection h with _ h _
    exact absurd h (by decide)
 have aH:=R.o.chg ab aC bp
 have ay:=ab.blk j.o (by
  rintro (e | e)
  . exact Q.o.ne j.o e
  . have:=ar.o.1;have:=Z.o;have:=Y.o;have:=aq.o;omega)
 have bx:zF w3 w.heap.size (.slice nA names.length nc) names:=I.o.chg ab (fun x E e=>by
  rcases e with rfl | rfl
  . exact Q.o.noCells
  . have:=ar.o.1;have:=Z.o;have:=Y.o;omega)
 have bn:Chg (· =b) w w3:=J.o.trans ab (fun x E e=>by
  rcases e with e | e
  . exact e
  . have:=ar.o.1;have:=Z.o;have:=Y.o;omega)
 have a4:∀ i,i<=rows.length->l.g i≠O:=fun i hi=>by
  rw [av]
  show (if i=rows.length then gl else F.g i)≠O
  by_cases i1:i=rows.length
  rotate_left
  . rw [if_neg i1];exact aU.o i hi
  rw [if_pos i1]
  have:=R.o.1
  omega
 have bA:∃ cs,w3.heap[O]?=some (.cells cs 53 (0,0)):=by
  obtain ⟨cs,h⟩:=aP.o
  exact ⟨cs,(ab.block O R.o.1 aC).trans h⟩
 have az :yi base rows.length (2*names.length+2) l w3 (zvf rows names goal):=by rw [av];exact bm
 obtain ⟨x2,A2,k2,c2,s2,rfl,_,_,_⟩:=hv.form
 have E:=zf w3 (.cells #[.int .i64 x2,.slice A2 k2 c2,.bool s2] 53)
 have aa:Hid (Yo (w3.alloc (.cells #[.int .i64 x2,.slice A2 k2 c2,.bool s2] 53)) w3.heap.size (vH goal)):=⟨_,_,_,_,_,Blk.new _ _ _,hv.below E⟩
 have aO:=ze (fun x (E:l.S rows.length x)=>(az.ltS x E).2)
 replace m:=ze (az.below E)
 replace R:=ze (aH.below E)
 replace j:=ze (ay.below E ay.lt)
 replace I:=ze (bx.below E)
 replace J:=ze (yh bn E)
 have bf:=ze a4
 have aw:Hid (∃ cs,(w3.alloc (.cells #[.int .i64 x2,.slice A2 k2 c2,.bool s2] 53)).heap[O]?=some (.cells cs 53 (0,0))):=by
  obtain ⟨cs,h⟩:=bA
  exact ⟨cs,(E.block O aH.1).trans h⟩
 have aI:Hid (base<=(w3.alloc (.cells #[.int .i64 x2,.slice A2 k2 c2,.bool s2] 53)).heap.size):=Nat.le_trans aJ.o (Nat.le_trans ab.size E.size)
 clear E az bA a4 bn bx ay aH aC bp bm bG bI ab bN hv av Q HG aU aP aJ ar bF bi
 have aV:=ad.o.2
 rw [<- aV]
 clear aV au
 go_upto_region 5 with fail
 generalize w3.alloc (.cells #[.int .i64 x2,.slice A2 k2 c2,.bool s2] 53)=W4 at aa m R j I J aw aI |-
 generalize w3.heap.size=gz at aa aO |-
 have aD:=zex base rows.length (2*names.length+2) l (zvf rows names goal) W4 m.o (by omega) (by omega)
 rw [ad.o.1] at aD
 have bc:=ze aD
 clear aD
 go_wp2_with fail
 refine bc.o.mono ?_
 rintro e w5 ⟨rfl,X⟩
 clear bc
 replace aa:=ze (aa.o.below X)
 replace m:=ze (m.o.below X)
 replace j:=kb_ j X
 replace I:=ze (I.o.below X)
 replace J:=ze (yh J.o X)
 have a9:Hid (∃ cs,w5.heap[O]?=some (.cells cs 53 (0,0))):=by
  obtain ⟨cs,h⟩:=aw.o
  exact ⟨cs,(X.block O R.o.1).trans h⟩
 replace R:=ze (R.o.below X)
 have bL:Hid (base<=w5.heap.size):=Nat.le_trans aI.o X.size
 clear X aw aI
 have aX:=zgw base rows.length (2*names.length+2) l (zvf rows names goal) U ((2*names.length+rows.length:Nat):Int) 0 n w5 m.o G.o.fit2 (by rw [ad.o.1];exact G.o.way) (by omega) (by omega) bL.o
 have a7:=ze aX
 clear aX
 go_wp2_with fail
 refine a7.o.mono ?_
 rintro e w6 ⟨rfl,bb,ae⟩
 clear a7
 have aK:=m.o.noDigS
 have ao:=m.o.ltS
 obtain ⟨bR,bq⟩:=a9.o
 have bu:=R.o.chg ae (m.o.neS bq bf.o) aK
 have a8:¬ l.S rows.length gz:=fun e=>by have:=aO.o gz e;omega
 have bd:=aa.o.chg ae a8 aK
 have bo:=ae.blk j.o (fun e=>by have:=(ao _ e).1;have:=Z.o;have:=Y.o;have:=aq.o;omega)
 have br:zF w6 w.heap.size (.slice nA names.length nc) names:=I.o.chg ae (fun x E e=>by have:=(ao _ e).1;have:=Z.o;have:=Y.o;omega)
 have a5:Chg (· =b) w w6:=J.o.trans ae (fun x E e=>by have:=(ao _ e).1;have:=Z.o;have:=Y.o;omega)
 replace m:=ze bb
 replace R:=ze bu
 replace aa:=ze bd
 replace j:=ze bo
 replace I:=ze br
 replace J:=ze a5
 clear bb bu bd bo br a5 a8 bq ao aK ae a9 aO bf
 go_upto_region 8 with fail
 have t1:=m.o.cell1
 have t3:=m.o.cell3
 have bP:(rows.length:Int)<(rows.length:Int)+1:=by omega
 have t4:=m.o.mat.cell (i:=rows.length) (by omega)
 obtain ⟨ax,aA,an,ac,ag,a0,a1,a2,ha⟩:=m.o.mat.at_ (i:=rows.length) (k:=0) (by omega) (by omega)
 simp only [Nat.zero_mul,Nat.zero_add] at a0 a1 a2
 obtain ⟨dx,dA,dn,dc,dg,am,bg⟩:=m.o.blk
 have d4:w6.cell? ⟨l.gt,4,none⟩=some (.int .i64 dx):=by rw [am.cell];rfl
 have d5:w6.cell? ⟨l.gt,5,none⟩=some (.slice dA dn dc):=by rw [am.cell];rfl
 have d6:w6.cell? ⟨l.gt,6,none⟩=some (.bool dg):=by rw [am.cell];rfl
 obtain ⟨vx,vA,vn,vc,vg,al,bl⟩:=aa.o
 have q0:=al.cell 0
 have q1:=al.cell 1
 have q2:=al.cell 2
 simp at q0 q1 q2
 have bQ:0<2*names.length+2:=by omega
 have bT:(0:Int)<2*(names.length:Int)+2:=by omega
 have bO:(0:Int)<=2*(names.length:Int)+1:=by omega
 have r:=am.lt
 have mL:=m.o.mat.lt.2
 have L:=(m.o.mat.rows rows.length (by omega)).2.lt
 have M:=al.lt
 have HA:=ze ha
 have aT:=ze bg
 have aF:=ze bl
 have N1:=ze (G.o.fitU.cell rows.length 0 (Nat.le_refl _) (by omega))
 have HZ:=ze (G.o.aim.ok.fit goal.length (Nat.le_refl _))
 have bE:Hid (U.den*vH goal≠0):=by have:=G.o.fitU.den;exact Int.mul_ne_zero (by omega) HZ.o.2
 have aM:=fun w' (h:yi base rows.length (2*names.length+2) l w' U)=>zhd base rows.length (2*names.length+2) l U w' h G.o.fitU (by omega) aG (by omega) (by rw [ad.o.1];exact G.o.bas) (by rw [ad.o.1];exact G.o.vl) G.o.vv
 rw [ad.o.1] at aM
 have aE:=fun w' vn (h:yi base rows.length (2*names.length+2) l w' U) (hs:zaa w' O rows.length (znr rows)) (hv:yb w' vn (vH goal))=>zfj base rows.length (2*names.length+2) l U O cs (znr rows) vn (vH goal) w' h hs hv G.o.fitU HZ.o.1 HZ.o.2 G.o.scl (by omega) (by omega) (fun k hk=>G.o.oth k (by omega))
 rw [ad.o.1,show 2*names.length+2 - 1=2*names.length+1 by omega] at aE
 have aQ:=ze aM
 have aY:=ze aE
 clear ha am bg al bl aM aE
 refine zt (S:=fun w' =>Hid (Below w6.heap.size w6 w')/\w'.cell? ⟨l.gt,3,none⟩=some (.slice (some ⟨l.gm,0,none⟩) (rows.length+1) l.cm)/\w'.cell? ⟨l.gt,1,none⟩=some (.slice l.rA rows.length l.rc)/\w'.cell? ⟨l.gm,rows.length,none⟩=some (.slice (some ⟨l.g rows.length,0,none⟩) (2*names.length+2) (2*names.length+2))/\w'.cell? ⟨l.g rows.length,0,none⟩=some (.int .i64 ax)/\w'.cell? ⟨l.g rows.length,1,none⟩=some (.slice aA an ac)/\w'.cell? ⟨l.g rows.length,2,none⟩=some (.bool ag)/\w'.cell? ⟨l.gt,4,none⟩=some (.int .i64 dx)/\w'.cell? ⟨l.gt,5,none⟩=some (.slice dA dn dc)/\w'.cell? ⟨l.gt,6,none⟩=some (.bool dg)/\w'.cell? ⟨gz,0,none⟩=some (.int .i64 vx)/\w'.cell? ⟨gz,1,none⟩=some (.slice vA vn vc)/\w'.cell? ⟨gz,2,none⟩=some (.bool vg)) 18 9 27 rfl (by kernel_rfl) (by kernel_rfl) (by kernel_rfl) rfl (zl (zu w6) (fun hB=>⟨zh hB r t3,zh hB r t1,zh hB mL t4,zh hB L a0,zh hB L a1,zh hB L a2,zh hB r d4,zh hB r d5,zh hB r d6,zh hB M q0,zh hB M q1,zh hB M q2⟩)) ?_ (fun hHeld=>?_)
 . intro _ _ _ _ _ h9;exact h9
 simp only [List.take_succ_cons,List.take_zero]
 iterate 18 refine ye ?_
 refine zU ?_
 refine HH.tk 20 ?_
 refine HH.tk 22 ?_
 refine HH.tk 23 ?_
 refine HH.tk 24 ?_
 refine HH.rd 18 (fun K hK=>?_)
 go_simp
 go_at_call 55
 refine (vq _ _ _ _ _ (aT.o.below hHeld.1.out) (aF.o.below hHeld.1.out) (G.o.fitU.fden.le2 (by omega)) (HZ.o.1.le2 (by omega))).mono ?_
 rintro e w7 ⟨v1,rfl,hv,D⟩
 have bs:=ze hv
 clear hv
 have V:=hHeld
 clear hHeld
 refine hK.out _ _ (zl (zr D V.1) (fun hB=>⟨zh hB r t3,zh hB r t1,zh hB mL t4,zh hB L a0,zh hB L a1,zh hB L a2,zh hB r d4,zh hB r d5,zh hB r d6,zh hB M q0,zh hB M q1,zh hB M q2⟩)) (fun hHeld=>?_)
 clear V hK K
 try simp only [Act.put,xST]
 clear D
 refine HH.rd 19 (fun K hK=>?_)
 go_simp
 go_at_call 54
 refine (Yp _ _ _ _ _ (HA.o.below hHeld.1.out) bs.o bE.o (N1.o.le2 (by omega)) (XG G.o.fitU.fden HZ.o.1 (by omega))).mono ?_
 rintro e w8 ⟨v2,rfl,⟨x,A,n4,c4,s,y,B,n5,c5,t,rfl,be,bz⟩,D⟩
 have ah:Hid (yc w8 (.agg #[.int .i64 x,.slice A n4 c4,.bool s,.int .i64 y,.slice B n5 c5,.bool t]) (Rat.divInt (U.cell rows.length 0) (U.den*vH goal))):=⟨_,_,_,_,_,_,_,_,_,_,rfl,be,bz⟩
 clear be bz bs
 have V:=hHeld
 clear hHeld
 refine hK.out _ _ (zl (zr D V.1) (fun hB=>⟨zh hB r t3,zh hB r t1,zh hB mL t4,zh hB L a0,zh hB L a1,zh hB L a2,zh hB r d4,zh hB r d5,zh hB r d6,zh hB M q0,zh hB M q1,zh hB M q2⟩)) (fun hHeld=>?_)
 clear V hK K
 try simp only [Act.put,xST]
 clear D
 refine HH.rd 21 (fun K hK=>?_)
 go_simp
 go_at_call 67
 refine (aQ.o _ (m.o.below hHeld.1.out)).mono ?_
 rintro e w9 ⟨gp,rfl,ba,D⟩
 have ak:=ze ba
 replace ah:=ze (ah.o.below D)
 clear ba aQ
 have V:=hHeld
 clear hHeld
 refine hK.out _ _ (zl (zr D V.1) (fun hB=>⟨zh hB r t3,zh hB r t1,zh hB mL t4,zh hB L a0,zh hB L a1,zh hB L a2,zh hB r d4,zh hB r d5,zh hB r d6,zh hB M q0,zh hB M q1,zh hB M q2⟩)) (fun hHeld=>?_)
 clear V hK K
 try simp only [Act.put,xST]
 clear D
 refine HH.rd 25 (fun K hK=>?_)
 go_simp
 go_at_call 63
 refine (aY.o _ _ (m.o.below hHeld.1.out) (R.o.below hHeld.1.out) (aF.o.below hHeld.1.out)).mono ?_
 rintro e ai ⟨gw,rfl,bD,D⟩
 have aB:=ze bD
 replace ah:=ze (ah.o.below D)
 replace ak:=ze (ak.o.below D)
 clear bD aY
 have V:=hHeld
 clear hHeld
 refine hK.out _ _ (zl (zr D V.1) (fun hB=>⟨zh hB r t3,zh hB r t1,zh hB mL t4,zh hB L a0,zh hB L a1,zh hB L a2,zh hB r d4,zh hB r d5,zh hB r d6,zh hB M q0,zh hB M q1,zh hB M q2⟩)) (fun hHeld=>?_)
 clear V hK K
 try simp only [Act.put,xST]
 clear D
 refine HH.tk 26 ?_
 have aj:=(hHeld.1).out
 try clear r0 r1 r2 r3 r4 r5 r6 r7 r8 r9 rL
 replace m:=ze (yi.below m.o aj)
 replace j:=kb_ j aj
 replace I:=ze (zF.below I.o aj)
 replace J:=ze (yh J.o aj)
 clear aj hHeld
 refine HH.done (by kernel_rfl) ?_
 simp only [List.drop_succ_cons,List.drop_zero]
 obtain ⟨r0,r1,r2,r3,r4,r5,r6,r7,r8,r9,rL⟩:=zyd j.o
 clear r0 r1 r2 r3 r4 r5 r6 r7 r8 r9 rL t1 t3 t4 a0 a1 a2 d4 d5 d6 q0 q1 q2 r mL L M HA aT aF aa
 have r0:=j.o.cell 0
 have r1:=j.o.cell 1
 have r2:=j.o.cell 2
 have r3:=j.o.cell 3
 have r4:=j.o.cell 4
 have r5:=j.o.cell 5
 have r6:=j.o.cell 6
 have r7:=j.o.cell 7
 have r8:=j.o.cell 8
 have r9:=j.o.cell 9
 simp at r0 r1 r2 r3 r4 r5 r6 r7 r8 r9
 have f0:=j.o.frozen 0
 have f1:=j.o.frozen 1
 have f2:=j.o.frozen 2
 have f3:=j.o.frozen 3
 have f4:=j.o.frozen 4
 have f5:=j.o.frozen 5
 have f6:=j.o.frozen 6
 have f7:=j.o.frozen 7
 have f8:=j.o.frozen 8
 have f9:=j.o.frozen 9
 have a3:zZ ai C:=j.o.noDig (Zq (by
  intro u hu;simp at hu
  rcases hu with rfl | rfl | rfl | rfl | rfl | rfl | rfl | rfl | rfl | rfl
  all_goals first | exact vi _ | exact zM _ _ _ | exact ZD _ | (intro x e;cases e)))
 have T:=((((((((((j.o.set_ 0 (.int .u8 1)).set_ 1 (.int .i64 x)).set_ 2 (.slice A n4 c4)).set_ 3 (.bool s)).set_ 4 (.int .i64 y)).set_ 5 (.slice B n5 c5)).set_ 6 (.bool t)).set_ 7 (.slice (some ⟨gp,0,none⟩) names.length names.length)).set_ 8 (.slice none 0 0)).set_ 9 (.slice (some ⟨gw,0,none⟩) rows.length rows.length))
 have e0:=T.cell 0
 have e1:=T.cell 1
 have e2:=T.cell 2
 have e3:=T.cell 3
 have e4:=T.cell 4
 have e5:=T.cell 5
 have e6:=T.cell 6
 have e7:=T.cell 7
 have e8:=T.cell 8
 have e9:=T.cell 9
 simp at e0 e1 e2 e3 e4 e5 e6 e7 e8 e9
 have af:Chg (· =C) ai ((((((((((ai.setCell ⟨C,0,none⟩ (.int .u8 1)).setCell ⟨C,1,none⟩ (.int .i64 x)).setCell ⟨C,2,none⟩ (.slice A n4 c4)).setCell ⟨C,3,none⟩ (.bool s)).setCell ⟨C,4,none⟩ (.int .i64 y)).setCell ⟨C,5,none⟩ (.slice B n5 c5)).setCell ⟨C,6,none⟩ (.bool t)).setCell ⟨C,7,none⟩ (.slice (some ⟨gp,0,none⟩) names.length names.length)).setCell ⟨C,8,none⟩ (.slice none 0 0)).setCell ⟨C,9,none⟩ (.slice (some ⟨gw,0,none⟩) rows.length rows.length)):=by
  iterate 10 (apply Chg.setCell (S:=fun b=>b=C) ?_ (by rfl))
  exact Chg.refl ai
 have ap:∀ z,z=C->zZ ai z:=fun z e=>by subst e;exact a3
 have HQ:=ze (af.rat ah.o ap)
 have HP:=ze (ak.o.chg af (fun e=>by
  obtain ⟨cs,k1⟩:=ak.o.heap
  exact yX j.o k1 (by decide) e.symm) ap)
 have HW:=ze (aB.o.chg af (fun e=>by
  obtain ⟨cs,k1⟩:=aB.o.heap
  exact yX j.o k1 (by decide) e.symm) ap)
 have HN:=ze (I.o.chg af (fun z hz e=>by have:=aq.o;omega))
 have bH:Hid (Chg (· =b) w ((((((((((ai.setCell ⟨C,0,none⟩ (.int .u8 1)).setCell ⟨C,1,none⟩ (.int .i64 x)).setCell ⟨C,2,none⟩ (.slice A n4 c4)).setCell ⟨C,3,none⟩ (.bool s)).setCell ⟨C,4,none⟩ (.int .i64 y)).setCell ⟨C,5,none⟩ (.slice B n5 c5)).setCell ⟨C,6,none⟩ (.bool t)).setCell ⟨C,7,none⟩ (.slice (some ⟨gp,0,none⟩) names.length names.length)).setCell ⟨C,8,none⟩ (.slice none 0 0)).setCell ⟨C,9,none⟩ (.slice (some ⟨gw,0,none⟩) rows.length rows.length))):=J.o.trans af (fun z hz e=>by have:=aq.o;omega)
 clear T af ap a3 m I J ah ak aB j
 go_wp2_with fail
 refine bodyPost_ret (v:=.agg #[.int .u8 1,.int .i64 x,.slice A n4 c4,.bool s,.int .i64 y,.slice B n5 c5,.bool t,.slice (some ⟨gp,0,none⟩) names.length names.length,.slice none 0 0,.slice (some ⟨gw,0,none⟩) rows.length rows.length]) (by simp [results,results28,go_sem,e0,e1,e2,e3,e4,e5,e6,e7,e8,e9]) rfl ?_
 exact ⟨x,A,n4,c4,s,y,B,n5,c5,t,gp,gw,rfl,HQ.o,HP.o,HW.o,HN.o,bH.o⟩
end Go.Proofs.YthbmhkiphmcogaaGreatDoor
