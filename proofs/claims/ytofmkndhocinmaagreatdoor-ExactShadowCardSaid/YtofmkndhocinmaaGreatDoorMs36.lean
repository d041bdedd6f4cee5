/- Parts of the proof. -/
import Derived.Test.YtofmkndhocinmaaGreatDoorMs33
import Derived.Test.YtofmkndhocinmaaGreatDoorMs35
set_option linter.all false
namespace Go.Proofs.YtofmkndhocinmaaGreatDoor
open Proofs.Tryz Go.RowKit Go.Deep
attribute [local go_sem ↓] Go.wp_at_zero Go.wp_at_succ
section
variable {base m L:Nat} {F:zN} {w:World} {T:y8}
theorem zX.noDigS (h:zX base m L F w T) (x:Nat) (hx:F.S m x):zK w x:=by
 rcases hx with rfl | ⟨i,hi,rfl⟩ | e | e
 . obtain ⟨⟨x,A,n,c,ng,b,_⟩,_⟩:=id h
   exact b.noDig (zd6 (xo h.bas) (xo h.oth))
 . exact (h.mat.rows i (by omega)).2.noDig
 . exact h.bas.2 _ e
 . exact h.oth.2 _ e
theorem zX.ltS (h:zX base m L F w T) (x:Nat) (hx:F.S m x):base<=x/\x<w.heap.size:=by
 rcases hx with rfl | ⟨i,hi,rfl⟩ | e | e
 . exact ⟨h.lo,h.lt⟩
 . exact ⟨(h.mat.rows i (by omega)).1,(h.mat.rows i (by omega)).2.lt⟩
 . exact h.bas.1.lt _ e
 . exact h.oth.1.lt _ e
theorem zX.neS (h:zX base m L F w T) {g:Nat} {cs:Array Value} (hg:w.heap[g]?=some (.cells cs 60 (0,0))) (hr:∀ i,i<=m->F.g i≠g):¬ F.S m g:=by
 rintro (rfl | ⟨i,hi,e⟩ | e | e)
 . obtain ⟨⟨x,A,n,c,ng,b,_⟩,_⟩:=id h
   exact yZ b hg (by decide) rfl
 . exact hr i hi e.symm
 . obtain ⟨j,k2⟩:=h.bas.heap e
   rw [hg] at k2;injection k2 with k2
   injection k2 with _ k3 _
   exact absurd k3 (by decide)
 . obtain ⟨j,k2⟩:=h.oth.heap e
   rw [hg] at k2;injection k2 with k2
   injection k2 with _ k3 _
   exact absurd k3 (by decide)
end
theorem Vl.chg {S:Nat->Prop} {w w' :World} {g n:Nat} {f:Nat->Int} (h:Vl w g n f) (hc:Chg S w w') (hg:¬ S g) (hS:∀ b,S b->zK w b):Vl w' g n f:=⟨uK h.1 hc.size,fun k hk=>(h.2 k hk).chg hc hg hS⟩
def zs5 (rows:List zF) (names:List (List UInt8)) (goal:List zm):y8:=
 (zon rows names).aimed rows.length (zad (zon rows names) names rows.length (2*names.length+2) (xV goal) goal goal.length)
structure zr7 (rows:List zF) (names:List (List UInt8)) (goal:List zm) (n:Nat) (U:y8):Prop where
 rok:∀ r∈rows,ztv names r
 m0:0<rows.length
 mm:rows.length<=10000
 nn:names.length<=400
 feas:∀ i,i<rows.length->0<=(zon rows names).cell i 0
 fit:(zon rows names).Fits rows.length (2*names.length+2)
 aim:zsf (zon rows names) names rows.length (2*names.length+2) goal
 fit2:(zs5 rows names goal).Fits rows.length (2*names.length+2)
 way:Xj rows.length (2*names.length+2) (2*names.length+rows.length) ((2*names.length+rows.length:Nat):Int) n (zs5 rows names goal) U 0
 fitU:U.Fits rows.length (2*names.length+2)
 bas:∀ i,i<rows.length->(2*names.length<=U.basic i/\U.basic i<=1000000)\/∃ k,U.basic i=2*k/\k<names.length
 vl:∀ i j,i<=rows.length->j<names.length->xS 8388608 (zc3 U names.length i j)
 vv:∀ i,i<rows.length->xS 8388608 (Rat.divInt (U.cell i 0) U.den)
 oth:∀ k,k<2*names.length+1->U.other k<=1000000
 scl:∀ i,i<rows.length->Fit (zlf rows i)
def zt6 (rows:List zF) (names:List (List UInt8)) (nv:Value) (goal:List zm) (U:y8) (b:Nat) (w:World) (e:Ending) (w' :World):Prop:=
 ∃ (x:Int) (A:Option Addr) (n c:Nat) (s:Bool) (y:Int) (B:Option Addr) (n' c' :Nat) (t:Bool) (gp gw:Nat),e= .returned (.agg #[.int .u8 1,.int .i64 x,.slice A n c,.bool s,.int .i64 y,.slice B n' c',.bool t,.slice (some ⟨gp,0,none⟩) names.length names.length,.slice none 0 0,.slice (some ⟨gw,0,none⟩) rows.length rows.length])/\
  zE w' (.agg #[.int .i64 x,.slice A n c,.bool s,.int .i64 y,.slice B n' c',.bool t]) (Rat.divInt (U.cell rows.length 0) (U.den*xV goal))/\yX w' gp names.length names.length (zc3 U names.length rows.length)/\
  yX w' gw rows.length rows.length (wtN U names.length rows.length (zlf rows) (xV goal) (2*names.length+1))/\zT w' w.heap.size nv names/\Chg (· =b) w w'
set_option maxRecDepth 100000 in
set_option maxHeartbeats 8000000 in
theorem zdu (b n1 c n2 nc n3 c3 n:Nat) (rA nA gA:Option Addr) (rows:List zF) (names:List (List UInt8)) (goal:List zm) (U:y8) (w:World) (hB:zr w b) (hr:yM w (.slice rA n1 c) rows) (hn:zT w w.heap.size (.slice nA n2 nc) names) (hg:zZ w (.slice gA n3 c3) goal)
 (hok:zr7 rows names goal n U):Calls prog 38 #[.map (some b),.slice rA n1 c,.slice nA n2 nc,.slice gA n3 c3] w (zt6 rows names (.slice nA n2 nc) goal U b w):=by
 obtain rfl:=hn.len
 obtain rfl:=hr.len
 have D:=zf w (.cells #[.int .u8 0,.int .i64 0,.slice none 0 0,.bool false,.int .i64 0,.slice none 0 0,.bool false,.slice none 0 0,.slice none 0 0,.slice none 0 0] 90)
 have j:=ze (Blk.new w 90 #[.int .u8 0,.int .i64 0,.slice none 0 0,.bool false,.int .i64 0,.slice none 0 0,.bool false,.slice none 0 0,.slice none 0 0,.slice none 0 0])
 have N:=ze (hB.below D)
 have HR:=ze ((zW.below hr D).more D.size)
 have I:=ze (hn.below D)
 have HG:=ze (zi.below hg D)
 have J:Hid (Chg (· =b) w (w.alloc (.cells #[.int .u8 0,.int .i64 0,.slice none 0 0,.bool false,.int .i64 0,.slice none 0 0,.bool false,.slice none 0 0,.slice none 0 0,.slice none 0 0] 90))):=Chg.of_below D
 have G:=ze hok
 have bR:=ze hB.lt
 clear hB hr hn hg hok D
 go_in
 go_upto_region 1 with fail
 have V:Hid (w.heap.size<(w.alloc (.cells #[.int .u8 0,.int .i64 0,.slice none 0 0,.bool false,.int .i64 0,.slice none 0 0,.bool false,.slice none 0 0,.slice none 0 0,.slice none 0 0] 90)).heap.size):=by show _<_;simp
 generalize w.alloc (.cells #[.int .u8 0,.int .i64 0,.slice none 0 0,.bool false,.int .i64 0,.slice none 0 0,.bool false,.slice none 0 0,.slice none 0 0,.slice none 0 0] 90)=W0 at j N HR I HG J V |-
 obtain ⟨C,aP⟩:=uQ w.heap.size
 rw [<- aP] at j |-
 have ap:=ze aP
 clear aP
 have bJ:=G.o.mm
 have bM:=G.o.nn
 have aD:=G.o.m0
 have bp:=zhu b rows.length c names.length nc rA nA rows names W0 N.o HR.o (I.o.more (Nat.le_of_lt V.o)) G.o.rok aD bJ bM
 have bj:=ze bp
 clear bp
 obtain ⟨base,a6⟩:=uQ W0.heap.size
 have R:=ze a6
 clear a6
 go_wp2_with fail
 refine bj.o.mono ?_
 rintro e w1 ⟨F,L,cs,rfl,M⟩
 clear bj
 have bK:∀ x,x=b->zK W0 x:=fun x e=>by subst e;exact N.o.noDig
 replace j:=ze (N.o.keepBlk M.chg j.o)
 replace I:=ze (I.o.chg M.chg (fun _ _ e=>by subst e;exact N.o.noCells))
 replace HG:=ze (N.o.keepT M.chg HG.o)
 replace J:=ze (yg J.o M.chg)
 replace N:=ze M.book
 have l:=ze M.tab
 rw [<- R.o] at l
 have O:=ze M.scl
 have a7:=ze M.sne
 have bC:=ze M.sty
 have aq:Hid (F.bk=some b/\F.nA=nA/\F.nn=names.length/\F.nc=nc):=⟨M.bk,M.nA,M.nn,M.nc⟩
 have a4:Hid (base<=w1.heap.size):=by have:=M.chg.size;have:=R.o;show _<=_;omega
 clear bK M HR
 have bw:=zcv base rows.length (2*names.length+2) F (zon rows names) w1 l.o G.o.feas (by omega) (by omega)
 have br:=ze bw
 clear bw
 go_wp2_with fail
 refine br.o.mono ?_
 rintro e w2 ⟨rfl,aR,r⟩
 clear br
 replace j:=kb_ j r
 replace I:=ze (I.o.below r)
 replace HG:=ze (zi.below HG.o r)
 replace J:=ze (zC J.o r)
 replace N:=ze (N.o.below r)
 replace l:=ze aR
 replace O:=ze (O.o.below r)
 have aM:Hid (∃ cs,w2.heap[L]?=some (.cells cs 60 (0,0))):=by
  obtain ⟨cs,h⟩:=bC.o
  have hl:L<w1.heap.size:=by
   obtain ⟨h1,h2⟩:=Array.getElem?_eq_some_iff.1 h;exact h1
  exact ⟨cs,(r.block L hl).trans h⟩
 have aO:Hid (base<=w2.heap.size):=uC a4.o r.size
 clear r aR bC a4
 have be:zT w2 base (.slice F.nA F.nn F.nc) names:=by
  have h1:=aq.o
  rw [h1.2.1,h1.2.2.1,h1.2.2.2]
  exact I.o.more (by have:=V.o;have:=R.o;omega)
 have aY:=zla base rows.length (2*names.length+2) F (zon rows names) b gA n3 c3 goal names w2 l.o aq.o.1 N.o (HG.o.more J.o.size) be G.o.aim G.o.fit (by omega) aD (by omega) aO.o
 have bv:=ze aY
 have ar:=ze (show base<=F.gm/\F.gm<w2.heap.size from l.o.mat.lt)
 have bI:=ze (fun i (hi:i<=rows.length)=>(l.o.mat.rows i (by omega)).2.lt)
 have bb:Hid (∃ cs,w2.heap[F.gm]?=some (.cells cs 126 (0,0))):=l.o.mat.own.heap rfl
 clear aY be
 go_wp2_with fail
 refine bv.o.mono ?_
 rintro e w3 ⟨v,gl,rfl,Y,aX,bF,bG,aa,bE⟩
 clear bv
 obtain ⟨m,ao⟩:=uQ (zth F rows.length gl)
 have ab:Hid (m.nn=names.length/\m.gt=F.gt):=by rw [ao];exact ⟨aq.o.2.2.1,rfl⟩
 have aQ:∀ x,(x=b\/x=F.gm)->zK w2 x:=fun x e=>by
  rcases e with rfl | rfl
  . exact N.o.noDig
  . exact l.o.mat.own.2 _ rfl
 have ay:¬ (L=b\/L=F.gm):=by
  obtain ⟨cs,h⟩:=aM.o
  obtain ⟨bT,h2⟩:=bb.o
  rintro (e | e)
  . exact N.o.ne h e
  . rw [e,h2] at h
    injection h with h
    injection h with _ h _
    exact absurd h (by decide)
 have aw:=O.o.chg aa ay aQ
 have aI:=aa.blk j.o (by
  rintro (e | e)
  . exact N.o.ne j.o e
  . have:=ar.o.1;have:=V.o;have:=R.o;have:=ap.o;omega)
 have bl:zT w3 w.heap.size (.slice nA names.length nc) names:=I.o.chg aa (fun x D e=>by
  rcases e with rfl | rfl
  . exact N.o.noCells
  . have:=ar.o.1;have:=V.o;have:=R.o;omega)
 have ba:Chg (· =b) w w3:=J.o.trans aa (fun x D e=>by
  rcases e with e | e
  . exact e
  . have:=ar.o.1;have:=V.o;have:=R.o;omega)
 have a9:∀ i,i<=rows.length->m.g i≠L:=fun i hi=>by
  rw [ao]
  show (if i=rows.length then gl else F.g i)≠L
  by_cases i1:i=rows.length
  rotate_left
  . rw [if_neg i1];exact a7.o i hi
  rw [if_pos i1]
  have:=O.o.1
  omega
 have a3:∃ cs,w3.heap[L]?=some (.cells cs 60 (0,0)):=by
  obtain ⟨cs,h⟩:=aM.o
  exact ⟨cs,(aa.block L O.o.1 ay).trans h⟩
 have aC :zX base rows.length (2*names.length+2) m w3 (zs5 rows names goal):=by rw [ao];exact aX
 obtain ⟨x2,A2,k2,c2,s2,rfl,_,_,_⟩:=Y.form
 have D:=zf w3 (.cells #[.int .i64 x2,.slice A2 k2 c2,.bool s2] 60)
 have Z:Hid (ZD (w3.alloc (.cells #[.int .i64 x2,.slice A2 k2 c2,.bool s2] 60)) w3.heap.size (xV goal)):=⟨_,_,_,_,_,Blk.new _ _ _,Y.below D⟩
 have aF:=ze (fun x (D:m.S rows.length x)=>(aC.ltS x D).2)
 replace l:=ze (aC.below D)
 replace O:=ze (aw.below D)
 replace j:=ze (aI.below D aI.lt)
 replace I:=ze (bl.below D)
 replace J:=ze (zC ba D)
 have bx:=ze a9
 have az:Hid (∃ cs,(w3.alloc (.cells #[.int .i64 x2,.slice A2 k2 c2,.bool s2] 60)).heap[L]?=some (.cells cs 60 (0,0))):=by
  obtain ⟨cs,h⟩:=a3
  exact ⟨cs,(D.block L aw.1).trans h⟩
 have aJ:Hid (base<=(w3.alloc (.cells #[.int .i64 x2,.slice A2 k2 c2,.bool s2] 60)).heap.size):=uC aO.o (uC aa.size D.size)
 clear D aC a3 a9 ba bl aI aw ay aQ aX bF bG aa bE Y ao N HG a7 aM aO ar bI bb
 have bn:=ab.o.2
 rw [<- bn]
 clear bn aq
 go_upto_region 5 with fail
 generalize w3.alloc (.cells #[.int .i64 x2,.slice A2 k2 c2,.bool s2] 60)=W4 at Z l O j I J az aJ |-
 generalize w3.heap.size=gz at Z aF |-
 have aB:=zdf base rows.length (2*names.length+2) m (zs5 rows names goal) W4 l.o (by omega) (by omega)
 rw [ab.o.1] at aB
 have aT:=ze aB
 clear aB
 go_wp2_with fail
 refine aT.o.mono ?_
 rintro e w5 ⟨rfl,T⟩
 clear aT
 replace Z:=ze (Z.o.below T)
 replace l:=ze (l.o.below T)
 replace j:=kb_ j T
 replace I:=ze (I.o.below T)
 replace J:=ze (zC J.o T)
 have aU:Hid (∃ cs,w5.heap[L]?=some (.cells cs 60 (0,0))):=by
  obtain ⟨cs,h⟩:=az.o
  exact ⟨cs,(T.block L O.o.1).trans h⟩
 replace O:=ze (O.o.below T)
 have bL:Hid (base<=w5.heap.size):=uC aJ.o T.size
 clear T az aJ
 have bA:=zex base rows.length (2*names.length+2) m (zs5 rows names goal) U ((2*names.length+rows.length:Nat):Int) 0 n w5 l.o G.o.fit2 (by rw [ab.o.1];exact G.o.way) (by omega) (by omega) bL.o
 have bu:=ze bA
 clear bA
 go_wp2_with fail
 refine bu.o.mono ?_
 rintro e X ⟨rfl,bc,ae⟩
 clear bu
 have aH:=l.o.noDigS
 have au:=l.o.ltS
 obtain ⟨bN,aW⟩:=aU.o
 have aV:=O.o.chg ae (l.o.neS aW bx.o) aH
 have hz6:¬ m.S rows.length gz:=fun e=>by have:=aF.o gz e;omega
 have bB:=Z.o.chg ae hz6 aH
 have a8:=ae.blk j.o (fun e=>by have:=(au _ e).1;have:=V.o;have:=R.o;have:=ap.o;omega)
 have bo:zT X w.heap.size (.slice nA names.length nc) names:=I.o.chg ae (fun x D e=>by have:=(au _ e).1;have:=V.o;have:=R.o;omega)
 have bz:Chg (· =b) w X:=J.o.trans ae (fun x D e=>by have:=(au _ e).1;have:=V.o;have:=R.o;omega)
 replace l:=ze bc
 replace O:=ze aV
 replace Z:=ze bB
 replace j:=ze a8
 replace I:=ze bo
 replace J:=ze bz
 clear bc aV bB a8 bo bz hz6 aW au aH ae aU aF bx
 go_upto_region 8 with fail
 have t1:=l.o.cell1
 have t3:=l.o.cell3
 have bO:(rows.length:Int)<(rows.length:Int)+1:=by omega
 have t4:=l.o.mat.cell (i:=rows.length) (by omega)
 obtain ⟨ax,aA,an,ac,ag,a0,a1,a2,ha⟩:=l.o.mat.at_ (i:=rows.length) (k:=0) (by omega) (by omega)
 simp only [Nat.zero_mul,Nat.zero_add] at a0 a1 a2
 obtain ⟨dx,dA,dn,dc,dg,ak,bq⟩:=l.o.blk
 have d4:X.cell? ⟨m.gt,4,none⟩=some (.int .i64 dx):=by rw [ak.cell];rfl
 have d5:X.cell? ⟨m.gt,5,none⟩=some (.slice dA dn dc):=by rw [ak.cell];rfl
 have d6:X.cell? ⟨m.gt,6,none⟩=some (.bool dg):=by rw [ak.cell];rfl
 obtain ⟨vx,vA,vn,vc,vg,aE,bs⟩:=Z.o
 obtain ⟨q0,q1,q2,_⟩:=bp3 aE
 have bP:0<2*names.length+2:=by omega
 have bQ:(0:Int)<2*(names.length:Int)+2:=by omega
 have bS:(0:Int)<=2*(names.length:Int)+1:=by omega
 have tL:=ak.lt
 have mL:=l.o.mat.lt.2
 have aL:=(l.o.mat.rows rows.length (by omega)).2.lt
 have vL:=aE.lt
 obtain ⟨HA,aZ,av⟩:=hz3 ha bq bs
 have N1:=ze (G.o.fitU.cell rows.length 0 (uA) (by omega))
 have HZ:=ze (G.o.aim.ok.fit goal.length (uA))
 have bD:Hid (U.den*xV goal≠0):=by have:=G.o.fitU.den;exact Int.mul_ne_zero (by omega) HZ.o.2
 have aG:=fun w' (h:zX base rows.length (2*names.length+2) m w' U)=>zf1 base rows.length (2*names.length+2) m U w' h G.o.fitU (by omega) aD (by omega) (by rw [ab.o.1];exact G.o.bas) (by rw [ab.o.1];exact G.o.vl) G.o.vv
 rw [ab.o.1] at aG
 have aN:=fun w' vn (h:zX base rows.length (2*names.length+2) m w' U) (hs:Vl w' L rows.length (zlf rows)) (Y:zM w' vn (xV goal))=>zee base rows.length (2*names.length+2) m U L cs (zlf rows) vn (xV goal) w' h hs Y G.o.fitU HZ.o.1 HZ.o.2 G.o.scl (by omega) (by omega) (fun k hk=>G.o.oth k (by omega))
 rw [ab.o.1,show 2*names.length+2 - 1=2*names.length+1 by omega] at aN
 have aS:=ze aG
 have bd:=ze aN
 clear ha ak bq aE bs aG aN
 have af:∀ w',Hid (Below X.heap.size X w')->w'.cell? ⟨m.gt,3,none⟩=some (.slice (some ⟨m.gm,0,none⟩) (rows.length+1) m.cm)/\w'.cell? ⟨m.gt,1,none⟩=some (.slice m.rA rows.length m.rc)/\w'.cell? ⟨m.gm,rows.length,none⟩=some (.slice (some ⟨m.g rows.length,0,none⟩) (2*names.length+2) (2*names.length+2))/\w'.cell? ⟨m.g rows.length,0,none⟩=some (.int .i64 ax)/\w'.cell? ⟨m.g rows.length,1,none⟩=some (.slice aA an ac)/\w'.cell? ⟨m.g rows.length,2,none⟩=some (.bool ag)/\w'.cell? ⟨m.gt,4,none⟩=some (.int .i64 dx)/\w'.cell? ⟨m.gt,5,none⟩=some (.slice dA dn dc)/\w'.cell? ⟨m.gt,6,none⟩=some (.bool dg)/\w'.cell? ⟨gz,0,none⟩=some (.int .i64 vx)/\w'.cell? ⟨gz,1,none⟩=some (.slice vA vn vc)/\w'.cell? ⟨gz,2,none⟩=some (.bool vg):=fun w' hB=>⟨zk hB tL t3,zk hB tL t1,zk hB mL t4,zk hB aL a0,zk hB aL a1,zk hB aL a2,zk hB tL d4,zk hB tL d5,zk hB tL d6,zk hB vL q0,zk hB vL q1,zk hB vL q2⟩
 refine xb af 18 9 27 (zw X) fun E=>?_
 simp only [xDR]
 iterate 18 refine zP ?_
 refine zD ?_
 refine tK 20 ?_
 refine tK 22 ?_
 refine tK 23 ?_
 refine tK 24 ?_
 refine rK 18 fun K hK=>?_
 go_simp
 go_at_call 66
 refine (xi _ _ _ _ _ (aZ.o.below E.1.out) (av.o.below E.1.out) (G.o.fitU.fden.le2 (by omega)) (HZ.o.1.le2 (by omega))).mono ?_
 rintro e w7 ⟨v1,rfl,Y,r⟩
 have bf:=ze Y
 clear Y
 refine hK.out _ _ (zl (zo r E.1) (af _)) ?_
 clear hK K E
 intro E
 try simp only [Act.put,xST]
 clear r
 refine rK 19 fun K hK=>?_
 go_simp
 go_at_call 64
 refine (ZG _ _ _ _ _ (HA.o.below E.1.out) bf.o bD.o (N1.o.le2 (by omega)) (YD G.o.fitU.fden HZ.o.1 (by omega))).mono ?_
 rintro e w8 ⟨v2,rfl,⟨x,A,n4,c4,s,y,B,n5,c5,t,rfl,a5,bm⟩,r⟩
 have ai:Hid (zE w8 (.agg #[.int .i64 x,.slice A n4 c4,.bool s,.int .i64 y,.slice B n5 c5,.bool t]) (Rat.divInt (U.cell rows.length 0) (U.den*xV goal))):=⟨_,_,_,_,_,_,_,_,_,_,rfl,a5,bm⟩
 clear a5 bm bf
 refine hK.out _ _ (zl (zo r E.1) (af _)) ?_
 clear hK K E
 intro E
 try simp only [Act.put,xST]
 clear r
 refine rK 21 fun K hK=>?_
 go_simp
 go_at_call 77
 refine (aS.o _ (l.o.below E.1.out)).mono ?_
 rintro e w9 ⟨gp,rfl,bh,r⟩
 have al:=ze bh
 replace ai:=ze (ai.o.below r)
 clear bh aS
 refine hK.out _ _ (zl (zo r E.1) (af _)) ?_
 clear hK K E
 intro E
 try simp only [Act.put,xST]
 clear r
 refine rK 25 fun K hK=>?_
 go_simp
 go_at_call 73
 refine (bd.o _ _ (l.o.below E.1.out) (O.o.below E.1.out) (av.o.below E.1.out)).mono ?_
 rintro e ah ⟨gw,rfl,bi,r⟩
 have aK:=ze bi
 replace ai:=ze (ai.o.below r)
 replace al:=ze (al.o.below r)
 clear bi bd
 refine hK.out _ _ (zl (zo r E.1) (af _)) ?_
 clear hK K E
 intro E
 try simp only [Act.put,xST]
 clear r
 refine tK 26 ?_
 have aj:=(E.1).out
 try clear r0 r1 r2 r3 r4 r5 r6 r7 r8 r9 rL
 replace l:=ze (zX.below l.o aj)
 replace j:=kb_ j aj
 replace I:=ze (zT.below I.o aj)
 replace J:=ze (zC J.o aj)
 clear aj E af
 refine hdn ?_
 simp only [xDR]
 obtain ⟨r0,r1,r2,r3,r4,r5,r6,r7,r8,r9,rL⟩:=zvb j.o
 clear r0 r1 r2 r3 r4 r5 r6 r7 r8 r9 rL t1 t3 t4 a0 a1 a2 d4 d5 d6 q0 q1 q2 tL mL aL vL HA aZ av Z;have r0:=j.o.cell 0;have r1:=j.o.cell 1;have r2:=j.o.cell 2;have r3:=j.o.cell 3;have r4:=j.o.cell 4;have r5:=j.o.cell 5;have r6:=j.o.cell 6;have r7:=j.o.cell 7;have r8:=j.o.cell 8;have r9:=j.o.cell 9;simp at r0 r1 r2 r3 r4 r5 r6 r7 r8 r9;obtain ⟨f0,f1,f2,f3,f4,f5,f6,f7,f8,f9⟩:=fq10 j
 have bg:zK ah C:=j.o.noDig (vH (by
  intro u hu;simp at hu
  rcases hu with rfl | rfl | rfl | rfl | rfl | rfl | rfl | rfl | rfl | rfl
  all_goals first | exact x8 _ | exact zH _ _ _ | exact Zl _ | (intro x e;cases e)))
 have Q:=((((((((((j.o.set_ 0 (.int .u8 1)).set_ 1 (.int .i64 x)).set_ 2 (.slice A n4 c4)).set_ 3 (.bool s)).set_ 4 (.int .i64 y)).set_ 5 (.slice B n5 c5)).set_ 6 (.bool t)).set_ 7 (.slice (some ⟨gp,0,none⟩) names.length names.length)).set_ 8 (.slice none 0 0)).set_ 9 (.slice (some ⟨gw,0,none⟩) rows.length rows.length))
 have e0:=Q.cell 0;have e1:=Q.cell 1;have e2:=Q.cell 2;have e3:=Q.cell 3;have e4:=Q.cell 4;have e5:=Q.cell 5;have e6:=Q.cell 6;have e7:=Q.cell 7;have e8:=Q.cell 8;have e9:=Q.cell 9;simp at e0 e1 e2 e3 e4 e5 e6 e7 e8 e9
 have ad:Chg (· =C) ah ((((((((((ah.setCell ⟨C,0,none⟩ (.int .u8 1)).setCell ⟨C,1,none⟩ (.int .i64 x)).setCell ⟨C,2,none⟩ (.slice A n4 c4)).setCell ⟨C,3,none⟩ (.bool s)).setCell ⟨C,4,none⟩ (.int .i64 y)).setCell ⟨C,5,none⟩ (.slice B n5 c5)).setCell ⟨C,6,none⟩ (.bool t)).setCell ⟨C,7,none⟩ (.slice (some ⟨gp,0,none⟩) names.length names.length)).setCell ⟨C,8,none⟩ (.slice none 0 0)).setCell ⟨C,9,none⟩ (.slice (some ⟨gw,0,none⟩) rows.length rows.length)):=by
  iterate 10 (apply Chg.setCell (S:=fun b=>b=C) ?_ (by rfl))
  exact Chg.refl ah
 have am:∀ z,z=C->zK ah z:=fun z e=>by subst e;exact bg
 have HQ:=ze (ad.rat ai.o am)
 have HP:=ze (al.o.chg ad (fun e=>by
  obtain ⟨cs,k1⟩:=al.o.heap
  exact yZ j.o k1 (by decide) e.symm) am)
 have HW:=ze (aK.o.chg ad (fun e=>by
  obtain ⟨cs,k1⟩:=aK.o.heap
  exact yZ j.o k1 (by decide) e.symm) am)
 have HN:=ze (I.o.chg ad (fun z hz e=>by have:=ap.o;omega))
 have bH:Hid (Chg (· =b) w ((((((((((ah.setCell ⟨C,0,none⟩ (.int .u8 1)).setCell ⟨C,1,none⟩ (.int .i64 x)).setCell ⟨C,2,none⟩ (.slice A n4 c4)).setCell ⟨C,3,none⟩ (.bool s)).setCell ⟨C,4,none⟩ (.int .i64 y)).setCell ⟨C,5,none⟩ (.slice B n5 c5)).setCell ⟨C,6,none⟩ (.bool t)).setCell ⟨C,7,none⟩ (.slice (some ⟨gp,0,none⟩) names.length names.length)).setCell ⟨C,8,none⟩ (.slice none 0 0)).setCell ⟨C,9,none⟩ (.slice (some ⟨gw,0,none⟩) rows.length rows.length))):=J.o.trans ad (fun z hz e=>by have:=ap.o;omega)
 clear Q ad am bg l I J ai al aK j
 go_wp2_with fail
 refine bodyPost_ret (v:=.agg #[.int .u8 1,.int .i64 x,.slice A n4 c4,.bool s,.int .i64 y,.slice B n5 c5,.bool t,.slice (some ⟨gp,0,none⟩) names.length names.length,.slice none 0 0,.slice (some ⟨gw,0,none⟩) rows.length rows.length]) (by simp [results,results38,go_sem,e0,e1,e2,e3,e4,e5,e6,e7,e8,e9]) rfl ?_
 exact ⟨x,A,n4,c4,s,y,B,n5,c5,t,gp,gw,rfl,HQ.o,HP.o,HW.o,HN.o,bH.o⟩
end Go.Proofs.YtofmkndhocinmaaGreatDoor
