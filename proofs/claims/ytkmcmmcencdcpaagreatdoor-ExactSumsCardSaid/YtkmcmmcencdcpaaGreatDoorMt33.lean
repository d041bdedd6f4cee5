/- Parts of the proof: memory, numbers, walks of the functions that are called. -/
import Derived.Test.YtkmcmmcencdcpaaGreatDoorMt30
import Derived.Test.YtkmcmmcencdcpaaGreatDoorMt32
set_option linter.unusedVariables false
set_option linter.unusedSimpArgs false
namespace Go.Proofs.YtkmcmmcencdcpaaGreatDoor
open Go.RowKit Go.Deep
attribute [local go_sem ↓] Go.wp_at_zero Go.wp_at_succ
section
variable {base m L:Nat} {F:zS} {w:World} {T:yy}
theorem yb.noDigS (h:yb base m L F w T) (x:Nat) (hx:F.S m x):yn w x:=by
 rcases hx with rfl | ⟨i,hi,rfl⟩ | e | e
 . obtain ⟨⟨x,A,n,c,ng,h1,_⟩,_⟩:=id h
   exact h1.noDig (zdg (xG h.bas) (xG h.oth))
 . exact (h.mat.rows i (by omega)).2.noDig
 . exact h.bas.2 _ e
 . exact h.oth.2 _ e
theorem yb.ltS (h:yb base m L F w T) (x:Nat) (hx:F.S m x):base<=x/\x<w.heap.size:=by
 rcases hx with rfl | ⟨i,hi,rfl⟩ | e | e
 . exact ⟨h.lo,h.lt⟩
 . exact ⟨(h.mat.rows i (by omega)).1,(h.mat.rows i (by omega)).2.lt⟩
 . exact h.bas.1.lt _ e
 . exact h.oth.1.lt _ e
theorem yb.neS (h:yb base m L F w T) {g:Nat} {cs:Array Value} (hg:w.heap[g]?=some (.cells cs 91 (0,0))) (hr:∀ i,i<=m->F.g i≠g):¬ F.S m g:=by
 rintro (rfl | ⟨i,hi,e⟩ | e | e)
 . obtain ⟨⟨x,A,n,c,ng,h1,_⟩,_⟩:=id h
   exact xM h1 hg (by decide) rfl
 . exact hr i hi e.symm
 . obtain ⟨cs2,k2⟩:=h.bas.heap e
   rw [hg] at k2;injection k2 with k2
   injection k2 with _ k3 _
   exact absurd k3 (by decide)
 . obtain ⟨cs2,k2⟩:=h.oth.heap e
   rw [hg] at k2;injection k2 with k2
   injection k2 with _ k3 _
   exact absurd k3 (by decide)
end
theorem XO.chg {S:Nat->Prop} {w w' :World} {g n:Nat} {f:Nat->Int} (h:XO w g n f) (hc:Chg S w w') (hg:¬ S g) (hS:∀ b,S b->yn w b):XO w' g n f:=⟨Nat.lt_of_lt_of_le h.1 hc.size,fun k hk=>(h.2 k hk).chg hc hg hS⟩
def zqw (rows:List yU) (names:List (List UInt8)) (goal:List zG):yy:=
 (zmp rows names).aimed rows.length (VP (zmp rows names) names rows.length (2*names.length+2) (xU goal) goal goal.length)
structure zpc (rows:List yU) (names:List (List UInt8)) (goal:List zG) (n:Nat) (U:yy):Prop where
 rok:∀ r∈rows,zrw names r
 m0:0<rows.length
 mm:rows.length<=10000
 nn:names.length<=400
 feas:∀ i,i<rows.length->0<=(zmp rows names).cell i 0
 fit:(zmp rows names).Fits rows.length (2*names.length+2)
 aim:zp5 (zmp rows names) names rows.length (2*names.length+2) goal
 fit2:(zqw rows names goal).Fits rows.length (2*names.length+2)
 way:YT rows.length (2*names.length+2) (2*names.length+rows.length) ((2*names.length+rows.length:Nat):Int) n (zqw rows names goal) U 0
 fitU:U.Fits rows.length (2*names.length+2)
 bas:∀ i,i<rows.length->(2*names.length<=U.basic i/\U.basic i<=1000000)\/∃ k,U.basic i=2*k/\k<names.length
 vl:∀ i j,i<=rows.length->j<names.length->ZW 8388608 (zcc U names.length i j)
 vv:∀ i,i<rows.length->ZW 8388608 (Rat.divInt (U.cell i 0) U.den)
 oth:∀ k,k<2*names.length+1->U.other k<=1000000
 scl:∀ i,i<rows.length->Fit (zju rows i)
def zq8 (rows:List yU) (names:List (List UInt8)) (nv:Value) (goal:List zG) (U:yy) (b:Nat) (w:World) (e:Ending) (w' :World):Prop:=
 ∃ (x:Int) (A:Option Addr) (n c:Nat) (s:Bool) (y:Int) (B:Option Addr) (n' c' :Nat) (t:Bool) (gp gw:Nat),e= .returned (.agg #[.int .u8 1,.int .i64 x,.slice A n c,.bool s,.int .i64 y,.slice B n' c',.bool t,.slice (some ⟨gp,0,none⟩) names.length names.length,.slice none 0 0,.slice (some ⟨gw,0,none⟩) rows.length rows.length])/\
  yC w' (.agg #[.int .i64 x,.slice A n c,.bool s,.int .i64 y,.slice B n' c',.bool t]) (Rat.divInt (U.cell rows.length 0) (U.den*xU goal))/\xa w' gp names.length names.length (zcc U names.length rows.length)/\
  xa w' gw rows.length rows.length (wtN U names.length rows.length (zju rows) (xU goal) (2*names.length+1))/\yg w' w.heap.size nv names/\Chg (· =b) w w'
set_option maxRecDepth 100000 in
set_option maxHeartbeats 8000000 in
theorem zcu (b n1 c n2 nc n3 c3 n:Nat) (rA nA gA:Option Addr) (rows:List yU) (names:List (List UInt8)) (goal:List zG) (U:yy) (w:World) (hB:zB w b) (hr:xD w (.slice rA n1 c) rows) (hn:yg w w.heap.size (.slice nA n2 nc) names) (hg:ya w (.slice gA n3 c3) goal)
 (hok:zpc rows names goal n U):Calls Tryz.prog 78 #[.map (some b),.slice rA n1 c,.slice nA n2 nc,.slice gA n3 c3] w (zq8 rows names (.slice nA n2 nc) goal U b w):=by
 obtain rfl:=hn.len
 obtain rfl:=hr.len
 have hx:=zf w (.cells #[.int .u8 0,.int .i64 0,.slice none 0 0,.bool false,.int .i64 0,.slice none 0 0,.bool false,.slice none 0 0,.slice none 0 0,.slice none 0 0] 131)
 have HK8:=ze (Blk.new w 131 #[.int .u8 0,.int .i64 0,.slice none 0 0,.bool false,.int .i64 0,.slice none 0 0,.bool false,.slice none 0 0,.slice none 0 0,.slice none 0 0])
 have HB:=ze (hB.below hx)
 have HR:=ze ((zV.below hr hx).more hx.size)
 have HNM:=ze (hn.below hx)
 have HG:=ze (zk.below hg hx)
 have HC:Hid (Chg (· =b) w (w.alloc (.cells #[.int .u8 0,.int .i64 0,.slice none 0 0,.bool false,.int .i64 0,.slice none 0 0,.bool false,.slice none 0 0,.slice none 0 0,.slice none 0 0] 131))):=Chg.of_below hx
 have HOK:=ze hok
 have HBL:=ze hB.lt
 clear hB hr hn hg hok hx
 go_enter Tryz.func78,Tryz.ntmps78
 go_upto_region 1 with fail
 have HBS:Hid (w.heap.size<(w.alloc (.cells #[.int .u8 0,.int .i64 0,.slice none 0 0,.bool false,.int .i64 0,.slice none 0 0,.bool false,.slice none 0 0,.slice none 0 0,.slice none 0 0] 131)).heap.size):=by show _<_;simp
 generalize w.alloc (.cells #[.int .u8 0,.int .i64 0,.slice none 0 0,.bool false,.int .i64 0,.slice none 0 0,.bool false,.slice none 0 0,.slice none 0 0,.slice none 0 0] 131)=W0 at HK8 HB HR HNM HG HC HBS |-
 obtain ⟨g8,hg8⟩:∃ g8,g8=w.heap.size:=⟨_,rfl⟩
 rw [<- hg8] at HK8 |-
 have HG8:=ze hg8
 clear hg8
 have hmm:=HOK.out.mm
 have hnn:=HOK.out.nn
 have hm0:=HOK.out.m0
 have hbg:=zg6 b rows.length c names.length nc rA nA rows names W0 HB.out HR.out (HNM.out.more (Nat.le_of_lt HBS.out)) HOK.out.rok hm0 hmm hnn
 have HBG:=ze hbg
 clear hbg
 obtain ⟨base,hbase⟩:∃ base,base=W0.heap.size:=⟨_,rfl⟩
 have HBE:=ze hbase
 clear hbase
 go_wp2_with fail
 refine HBG.out.mono ?_
 rintro e w1 ⟨F,gs,cs,rfl,RB⟩
 clear HBG
 have hDb:∀ x,x=b->yn W0 x:=fun x e=>by subst e;exact HB.out.noDig
 replace HK8:=ze (HB.out.keepBlk RB.chg HK8.out)
 replace HNM:=ze (HNM.out.chg RB.chg (fun _ _ e=>by subst e;exact HB.out.noCells))
 replace HG:=ze (HB.out.keepT RB.chg HG.out)
 replace HC:=ze (yq HC.out RB.chg)
 replace HB:=ze RB.book
 have HT:=ze RB.tab
 rw [<- HBE.out] at HT
 have HSC:=ze RB.scl
 have HSN:=ze RB.sne
 have HST:=ze RB.sty
 have HFE:Hid (F.bk=some b/\F.nA=nA/\F.nn=names.length/\F.nc=nc):=⟨RB.bk,RB.nA,RB.nn,RB.nc⟩
 have HBL1:Hid (base<=w1.heap.size):=by have:=RB.chg.size;have:=HBE.out;show _<=_;omega
 clear hDb RB HR
 have hfe:=zbk base rows.length (2*names.length+2) F (zmp rows names) w1 HT.out HOK.out.feas (by omega) (by omega)
 have HFS:=ze hfe
 clear hfe
 go_wp2_with fail
 refine HFS.out.mono ?_
 rintro e w2 ⟨rfl,hT2,hb2⟩
 clear HFS
 replace HK8:=kb_ HK8 hb2
 replace HNM:=ze (HNM.out.below hb2)
 replace HG:=ze (zk.below HG.out hb2)
 replace HC:=ze (zX HC.out hb2)
 replace HB:=ze (HB.out.below hb2)
 replace HT:=ze hT2
 replace HSC:=ze (HSC.out.below hb2)
 have HST2:Hid (∃ cs,w2.heap[gs]?=some (.cells cs 91 (0,0))):=by
  obtain ⟨cs,h⟩:=HST.out
  have hl:gs<w1.heap.size:=by
   obtain ⟨h1,h2⟩:=Array.getElem?_eq_some_iff.1 h;exact h1
  exact ⟨cs,(hb2.block gs hl).trans h⟩
 have HBL2:Hid (base<=w2.heap.size):=Nat.le_trans HBL1.out hb2.size
 clear hb2 hT2 HST HBL1
 have hnb:yg w2 base (.slice F.nA F.nn F.nc) names:=by
  have h1:=HFE.out
  rw [h1.2.1,h1.2.2.1,h1.2.2.2]
  exact HNM.out.more (by have:=HBS.out;have:=HBE.out;omega)
 have hai:=zij base rows.length (2*names.length+2) F (zmp rows names) b gA n3 c3 goal names w2 HT.out HFE.out.1 HB.out (HG.out.more HC.out.size) hnb HOK.out.aim HOK.out.fit (by omega) hm0 (by omega) HBL2.out
 have HAI:=ze hai
 have HGM2:=ze (show base<=F.gm/\F.gm<w2.heap.size from HT.out.mat.lt)
 have HGI2:=ze (fun i (hi:i<=rows.length)=>(HT.out.mat.rows i (by omega)).2.lt)
 have HMH:Hid (∃ cs,w2.heap[F.gm]?=some (.cells cs 187 (0,0))):=HT.out.mat.own.heap rfl
 clear hai hnb
 go_wp2_with fail
 refine HAI.out.mono ?_
 rintro e w3 ⟨v,gl,rfl,hv,hT3,hB3,hn3,hc3,hgl⟩
 clear HAI
 obtain ⟨F2,hF2⟩:∃ F2,F2=zq0 F rows.length gl:=⟨_,rfl⟩
 have HF2:Hid (F2.nn=names.length/\F2.gt=F.gt):=by rw [hF2];exact ⟨HFE.out.2.2.1,rfl⟩
 have hDS:∀ x,(x=b\/x=F.gm)->yn w2 x:=fun x e=>by
  rcases e with rfl | rfl
  . exact HB.out.noDig
  . exact HT.out.mat.own.2 _ rfl
 have hgsS:¬ (gs=b\/gs=F.gm):=by
  obtain ⟨cs,h⟩:=HST2.out
  obtain ⟨cs2,h2⟩:=HMH.out
  rintro (e | e)
  . exact HB.out.ne h e
  . rw [e,h2] at h
    injection h with h
    injection h with _ h _
    exact absurd h (by decide)
 have hs3:=HSC.out.chg hc3 hgsS hDS
 have hk8:=hc3.blk HK8.out (by
  rintro (e | e)
  . exact HB.out.ne HK8.out e
  . have:=HGM2.out.1;have:=HBS.out;have:=HBE.out;have:=HG8.out;omega)
 have hn8:yg w3 w.heap.size (.slice nA names.length nc) names:=HNM.out.chg hc3 (fun x hx e=>by
  rcases e with rfl | rfl
  . exact HB.out.noCells
  . have:=HGM2.out.1;have:=HBS.out;have:=HBE.out;omega)
 have hc8:Chg (· =b) w w3:=HC.out.trans hc3 (fun x hx e=>by
  rcases e with e | e
  . exact e
  . have:=HGM2.out.1;have:=HBS.out;have:=HBE.out;omega)
 have hsn3:∀ i,i<=rows.length->F2.g i≠gs:=fun i hi=>by
  rw [hF2]
  show (if i=rows.length then gl else F.g i)≠gs
  by_cases i1:i=rows.length
  . rw [if_pos i1]
    have:=HSC.out.1
    omega
  . rw [if_neg i1];exact HSN.out i hi
 have hst3:∃ cs,w3.heap[gs]?=some (.cells cs 91 (0,0)):=by
  obtain ⟨cs,h⟩:=HST2.out
  exact ⟨cs,(hc3.block gs HSC.out.1 hgsS).trans h⟩
 have hT3' :yb base rows.length (2*names.length+2) F2 w3 (zqw rows names goal):=by rw [hF2];exact hT3
 obtain ⟨x2,A2,k2,c2,s2,rfl,_,_,_⟩:=hv.form
 have hx:=zf w3 (.cells #[.int .i64 x2,.slice A2 k2 c2,.bool s2] 91)
 have HBX:Hid (Zw (w3.alloc (.cells #[.int .i64 x2,.slice A2 k2 c2,.bool s2] 91)) w3.heap.size (xU goal)):=⟨_,_,_,_,_,Blk.new _ _ _,hv.below hx⟩
 have HBXS:=ze (fun x (hx:F2.S rows.length x)=>(hT3'.ltS x hx).2)
 replace HT:=ze (hT3'.below hx)
 replace HSC:=ze (hs3.below hx)
 replace HK8:=ze (hk8.below hx hk8.lt)
 replace HNM:=ze (hn8.below hx)
 replace HC:=ze (zX hc8 hx)
 have HSN3:=ze hsn3
 have HST3:Hid (∃ cs,(w3.alloc (.cells #[.int .i64 x2,.slice A2 k2 c2,.bool s2] 91)).heap[gs]?=some (.cells cs 91 (0,0))):=by
  obtain ⟨cs,h⟩:=hst3
  exact ⟨cs,(hx.block gs hs3.1).trans h⟩
 have HBL3:Hid (base<=(w3.alloc (.cells #[.int .i64 x2,.slice A2 k2 c2,.bool s2] 91)).heap.size):=Nat.le_trans HBL2.out (Nat.le_trans hc3.size hx.size)
 clear hx hT3' hst3 hsn3 hc8 hn8 hk8 hs3 hgsS hDS hT3 hB3 hn3 hc3 hgl hv hF2 HB HG HSN HST2 HBL2 HGM2 HGI2 HMH
 have hgt:=HF2.out.2
 rw [<- hgt]
 clear hgt HFE
 go_upto_region 5 with fail
 generalize w3.alloc (.cells #[.int .i64 x2,.slice A2 k2 c2,.bool s2] 91)=W4 at HBX HT HSC HK8 HNM HC HST3 HBL3 |-
 generalize w3.heap.size=gz at HBX HBXS |-
 have hrm:=zce base rows.length (2*names.length+2) F2 (zqw rows names goal) W4 HT.out (by omega) (by omega)
 rw [HF2.out.1] at hrm
 have HRM:=ze hrm
 clear hrm
 go_wp2_with fail
 refine HRM.out.mono ?_
 rintro e w5 ⟨rfl,hb5⟩
 clear HRM
 replace HBX:=ze (HBX.out.below hb5)
 replace HT:=ze (HT.out.below hb5)
 replace HK8:=kb_ HK8 hb5
 replace HNM:=ze (HNM.out.below hb5)
 replace HC:=ze (zX HC.out hb5)
 have HST5:Hid (∃ cs,w5.heap[gs]?=some (.cells cs 91 (0,0))):=by
  obtain ⟨cs,h⟩:=HST3.out
  exact ⟨cs,(hb5.block gs HSC.out.1).trans h⟩
 replace HSC:=ze (HSC.out.below hb5)
 have HBL5:Hid (base<=w5.heap.size):=Nat.le_trans HBL3.out hb5.size
 clear hb5 HST3 HBL3
 have hcl:=ze6 base rows.length (2*names.length+2) F2 (zqw rows names goal) U ((2*names.length+rows.length:Nat):Int) 0 n w5 HT.out HOK.out.fit2 (by rw [HF2.out.1];exact HOK.out.way) (by omega) (by omega) HBL5.out
 have HCL:=ze hcl
 clear hcl
 go_wp2_with fail
 refine HCL.out.mono ?_
 rintro e w6 ⟨rfl,hT6,hc6⟩
 clear HCL
 have hD6:=HT.out.noDigS
 have hS6:=HT.out.ltS
 obtain ⟨cs6,hst6⟩:=HST5.out
 have hs6:=HSC.out.chg hc6 (HT.out.neS hst6 HSN3.out) hD6
 have hz6:¬ F2.S rows.length gz:=fun e=>by have:=HBXS.out gz e;omega
 have hbx6:=HBX.out.chg hc6 hz6 hD6
 have hk6:=hc6.blk HK8.out (fun e=>by have:=(hS6 _ e).1;have:=HBS.out;have:=HBE.out;have:=HG8.out;omega)
 have hn6:yg w6 w.heap.size (.slice nA names.length nc) names:=HNM.out.chg hc6 (fun x hx e=>by have:=(hS6 _ e).1;have:=HBS.out;have:=HBE.out;omega)
 have hcc6:Chg (· =b) w w6:=HC.out.trans hc6 (fun x hx e=>by have:=(hS6 _ e).1;have:=HBS.out;have:=HBE.out;omega)
 replace HT:=ze hT6
 replace HSC:=ze hs6
 replace HBX:=ze hbx6
 replace HK8:=ze hk6
 replace HNM:=ze hn6
 replace HC:=ze hcc6
 clear hT6 hs6 hbx6 hk6 hn6 hcc6 hz6 hst6 hS6 hD6 hc6 HST5 HBXS HSN3
 go_upto_region 8 with fail
 have t1:=HT.out.cell1
 have t3:=HT.out.cell3
 have hmm1:(rows.length:Int)<(rows.length:Int)+1:=by omega
 have t4:=HT.out.mat.cell (i:=rows.length) (by omega)
 obtain ⟨ax,aA,an,ac,ag,a0,a1,a2,ha⟩:=HT.out.mat.at_ (i:=rows.length) (k:=0) (by omega) (by omega)
 simp only [Nat.zero_mul,Nat.zero_add] at a0 a1 a2
 obtain ⟨dx,dA,dn,dc,dg,hblk,hden⟩:=HT.out.blk
 have d4:w6.cell? ⟨F2.gt,4,none⟩=some (.int .i64 dx):=by rw [hblk.cell];rfl
 have d5:w6.cell? ⟨F2.gt,5,none⟩=some (.slice dA dn dc):=by rw [hblk.cell];rfl
 have d6:w6.cell? ⟨F2.gt,6,none⟩=some (.bool dg):=by rw [hblk.cell];rfl
 obtain ⟨vx,vA,vn,vc,vg,hkv,hvn⟩:=HBX.out
 have q0:=hkv.cell 0
 have q1:=hkv.cell 1
 have q2:=hkv.cell 2
 simp at q0 q1 q2
 have hL0:0<2*names.length+2:=by omega
 have hL1:(0:Int)<2*(names.length:Int)+2:=by omega
 have hL2:(0:Int)<=2*(names.length:Int)+1:=by omega
 have tL:=hblk.lt
 have mL:=HT.out.mat.lt.2
 have aL:=(HT.out.mat.rows rows.length (by omega)).2.lt
 have vL:=hkv.lt
 have HA:=ze ha
 have HDN:=ze hden
 have HVN:=ze hvn
 have N1:=ze (HOK.out.fitU.cell rows.length 0 (Nat.le_refl _) (by omega))
 have HZ:=ze (HOK.out.aim.ok.fit goal.length (Nat.le_refl _))
 have HDZ:Hid (U.den*xU goal≠0):=by have:=HOK.out.fitU.den;exact Int.mul_ne_zero (by omega) HZ.out.2
 have hvc:=fun w' (h:yb base rows.length (2*names.length+2) F2 w' U)=>zdu base rows.length (2*names.length+2) F2 U w' h HOK.out.fitU (by omega) hm0 (by omega) (by rw [HF2.out.1];exact HOK.out.bas) (by rw [HF2.out.1];exact HOK.out.vl) HOK.out.vv
 rw [HF2.out.1] at hvc
 have hwt:=fun w' vn (h:yb base rows.length (2*names.length+2) F2 w' U) (hs:XO w' gs rows.length (zju rows)) (hv:zR w' vn (xU goal))=>zdk base rows.length (2*names.length+2) F2 U gs cs (zju rows) vn (xU goal) w' h hs hv HOK.out.fitU HZ.out.1 HZ.out.2 HOK.out.scl (by omega) (by omega) (fun k hk=>HOK.out.oth k (by omega))
 rw [HF2.out.1,show 2*names.length+2 - 1=2*names.length+1 by omega] at hwt
 have HVC:=ze hvc
 have HWT:=ze hwt
 clear ha hblk hden hkv hvn hvc hwt
 refine zr (S:=fun w' =>Hid (Below w6.heap.size w6 w')/\w'.cell? ⟨F2.gt,3,none⟩=some (.slice (some ⟨F2.gm,0,none⟩) (rows.length+1) F2.cm)/\w'.cell? ⟨F2.gt,1,none⟩=some (.slice F2.rA rows.length F2.rc)/\w'.cell? ⟨F2.gm,rows.length,none⟩=some (.slice (some ⟨F2.g rows.length,0,none⟩) (2*names.length+2) (2*names.length+2))/\w'.cell? ⟨F2.g rows.length,0,none⟩=some (.int .i64 ax)/\w'.cell? ⟨F2.g rows.length,1,none⟩=some (.slice aA an ac)/\w'.cell? ⟨F2.g rows.length,2,none⟩=some (.bool ag)/\w'.cell? ⟨F2.gt,4,none⟩=some (.int .i64 dx)/\w'.cell? ⟨F2.gt,5,none⟩=some (.slice dA dn dc)/\w'.cell? ⟨F2.gt,6,none⟩=some (.bool dg)/\w'.cell? ⟨gz,0,none⟩=some (.int .i64 vx)/\w'.cell? ⟨gz,1,none⟩=some (.slice vA vn vc)/\w'.cell? ⟨gz,2,none⟩=some (.bool vg)) 18 9 27 rfl (by kernel_rfl) (by kernel_rfl) (by kernel_rfl) rfl (zm (zv w6) (fun hB=>⟨zh hB tL t3,zh hB tL t1,zh hB mL t4,zh hB aL a0,zh hB aL a1,zh hB aL a2,zh hB tL d4,zh hB tL d5,zh hB tL d6,zh hB vL q0,zh hB vL q1,zh hB vL q2⟩)) ?_ (fun hHeld=>?_)
 . intro _ _ _ _ _ h9;exact h9
 simp only [List.take_succ_cons,List.take_zero]
 iterate 18 refine zW ?_
 refine zM ?_
 refine HH.tk 20 ?_
 refine HH.tk 22 ?_
 refine HH.tk 23 ?_
 refine HH.tk 24 ?_
 refine HH.rd 18 (fun K hK=>?_)
 go_simp
 go_at_call 130
 refine (x7 _ _ _ _ _ (HDN.out.below hHeld.1.out) (HVN.out.below hHeld.1.out) (HOK.out.fitU.fden.le2 (by omega)) (HZ.out.1.le2 (by omega))).mono ?_
 rintro e w7 ⟨v1,rfl,hv,hb2⟩
 have HX1:=ze hv
 clear hv
 have hH0:=hHeld
 clear hHeld
 refine hK.out _ _ (zm (zt hb2 hH0.1) (fun hB=>⟨zh hB tL t3,zh hB tL t1,zh hB mL t4,zh hB aL a0,zh hB aL a1,zh hB aL a2,zh hB tL d4,zh hB tL d5,zh hB tL d6,zh hB vL q0,zh hB vL q1,zh hB vL q2⟩)) (fun hHeld=>?_)
 clear hH0 hK K
 try simp only [Act.put,List.setIfInBounds_toArray,List.set_cons_zero,List.set_cons_succ]
 clear hb2
 refine HH.rd 19 (fun K hK=>?_)
 go_simp
 go_at_call 128
 refine (ZZ _ _ _ _ _ (HA.out.below hHeld.1.out) HX1.out HDZ.out (N1.out.le2 (by omega)) (Y6 HOK.out.fitU.fden HZ.out.1 (by omega))).mono ?_
 rintro e w8 ⟨v2,rfl,⟨x,A,n4,c4,s,y,B,n5,c5,t,rfl,hv1,hv2⟩,hb2⟩
 have HX2:Hid (yC w8 (.agg #[.int .i64 x,.slice A n4 c4,.bool s,.int .i64 y,.slice B n5 c5,.bool t]) (Rat.divInt (U.cell rows.length 0) (U.den*xU goal))):=⟨_,_,_,_,_,_,_,_,_,_,rfl,hv1,hv2⟩
 clear hv1 hv2 HX1
 have hH0:=hHeld
 clear hHeld
 refine hK.out _ _ (zm (zt hb2 hH0.1) (fun hB=>⟨zh hB tL t3,zh hB tL t1,zh hB mL t4,zh hB aL a0,zh hB aL a1,zh hB aL a2,zh hB tL d4,zh hB tL d5,zh hB tL d6,zh hB vL q0,zh hB vL q1,zh hB vL q2⟩)) (fun hHeld=>?_)
 clear hH0 hK K
 try simp only [Act.put,List.setIfInBounds_toArray,List.set_cons_zero,List.set_cons_succ]
 clear hb2
 refine HH.rd 21 (fun K hK=>?_)
 go_simp
 go_at_call 140
 refine (HVC.out _ (HT.out.below hHeld.1.out)).mono ?_
 rintro e w9 ⟨gp,rfl,hrp,hb2⟩
 have HX3:=ze hrp
 replace HX2:=ze (HX2.out.below hb2)
 clear hrp HVC
 have hH0:=hHeld
 clear hHeld
 refine hK.out _ _ (zm (zt hb2 hH0.1) (fun hB=>⟨zh hB tL t3,zh hB tL t1,zh hB mL t4,zh hB aL a0,zh hB aL a1,zh hB aL a2,zh hB tL d4,zh hB tL d5,zh hB tL d6,zh hB vL q0,zh hB vL q1,zh hB vL q2⟩)) (fun hHeld=>?_)
 clear hH0 hK K
 try simp only [Act.put,List.setIfInBounds_toArray,List.set_cons_zero,List.set_cons_succ]
 clear hb2
 refine HH.rd 25 (fun K hK=>?_)
 go_simp
 go_at_call 136
 refine (HWT.out _ _ (HT.out.below hHeld.1.out) (HSC.out.below hHeld.1.out) (HVN.out.below hHeld.1.out)).mono ?_
 rintro e w10 ⟨gw,rfl,hrw,hb2⟩
 have HX4:=ze hrw
 replace HX2:=ze (HX2.out.below hb2)
 replace HX3:=ze (HX3.out.below hb2)
 clear hrw HWT
 have hH0:=hHeld
 clear hHeld
 refine hK.out _ _ (zm (zt hb2 hH0.1) (fun hB=>⟨zh hB tL t3,zh hB tL t1,zh hB mL t4,zh hB aL a0,zh hB aL a1,zh hB aL a2,zh hB tL d4,zh hB tL d5,zh hB tL d6,zh hB vL q0,zh hB vL q1,zh hB vL q2⟩)) (fun hHeld=>?_)
 clear hH0 hK K
 try simp only [Act.put,List.setIfInBounds_toArray,List.set_cons_zero,List.set_cons_succ]
 clear hb2
 refine HH.tk 26 ?_
 have HBY:=(hHeld.1).out
 try clear r0 r1 r2 r3 r4 r5 r6 r7 r8 r9 rL
 replace HT:=ze (yb.below HT.out HBY)
 replace HK8:=kb_ HK8 HBY
 replace HNM:=ze (yg.below HNM.out HBY)
 replace HC:=ze (zX HC.out HBY)
 clear HBY hHeld
 refine HH.done (by kernel_rfl) ?_
 simp only [List.drop_succ_cons,List.drop_zero]
 obtain ⟨r0,r1,r2,r3,r4,r5,r6,r7,r8,r9,rL⟩:=zsr HK8.out
 clear r0 r1 r2 r3 r4 r5 r6 r7 r8 r9 rL t1 t3 t4 a0 a1 a2 d4 d5 d6 q0 q1 q2 tL mL aL vL HA HDN HVN HBX
 have r0:=HK8.out.cell 0
 have r1:=HK8.out.cell 1
 have r2:=HK8.out.cell 2
 have r3:=HK8.out.cell 3
 have r4:=HK8.out.cell 4
 have r5:=HK8.out.cell 5
 have r6:=HK8.out.cell 6
 have r7:=HK8.out.cell 7
 have r8:=HK8.out.cell 8
 have r9:=HK8.out.cell 9
 simp at r0 r1 r2 r3 r4 r5 r6 r7 r8 r9
 have f0:=HK8.out.frozen 0
 have f1:=HK8.out.frozen 1
 have f2:=HK8.out.frozen 2
 have f3:=HK8.out.frozen 3
 have f4:=HK8.out.frozen 4
 have f5:=HK8.out.frozen 5
 have f6:=HK8.out.frozen 6
 have f7:=HK8.out.frozen 7
 have f8:=HK8.out.frozen 8
 have f9:=HK8.out.frozen 9
 have hD8:yn w10 g8:=HK8.out.noDig (ZC (by
  intro u hu;simp at hu
  rcases hu with rfl | rfl | rfl | rfl | rfl | rfl | rfl | rfl | rfl | rfl
  all_goals first | exact xC _ | exact ys _ _ _ | exact Zt _ | (intro x e;cases e)))
 have hk9:=((((((((((HK8.out.set_ 0 (.int .u8 1)).set_ 1 (.int .i64 x)).set_ 2 (.slice A n4 c4)).set_ 3 (.bool s)).set_ 4 (.int .i64 y)).set_ 5 (.slice B n5 c5)).set_ 6 (.bool t)).set_ 7 (.slice (some ⟨gp,0,none⟩) names.length names.length)).set_ 8 (.slice none 0 0)).set_ 9 (.slice (some ⟨gw,0,none⟩) rows.length rows.length))
 have e0:=hk9.cell 0
 have e1:=hk9.cell 1
 have e2:=hk9.cell 2
 have e3:=hk9.cell 3
 have e4:=hk9.cell 4
 have e5:=hk9.cell 5
 have e6:=hk9.cell 6
 have e7:=hk9.cell 7
 have e8:=hk9.cell 8
 have e9:=hk9.cell 9
 simp at e0 e1 e2 e3 e4 e5 e6 e7 e8 e9
 have hc9:Chg (· =g8) w10 ((((((((((w10.setCell ⟨g8,0,none⟩ (.int .u8 1)).setCell ⟨g8,1,none⟩ (.int .i64 x)).setCell ⟨g8,2,none⟩ (.slice A n4 c4)).setCell ⟨g8,3,none⟩ (.bool s)).setCell ⟨g8,4,none⟩ (.int .i64 y)).setCell ⟨g8,5,none⟩ (.slice B n5 c5)).setCell ⟨g8,6,none⟩ (.bool t)).setCell ⟨g8,7,none⟩ (.slice (some ⟨gp,0,none⟩) names.length names.length)).setCell ⟨g8,8,none⟩ (.slice none 0 0)).setCell ⟨g8,9,none⟩ (.slice (some ⟨gw,0,none⟩) rows.length rows.length)):=by
  iterate 10 (apply Chg.setCell (S:=fun b=>b=g8) ?_ (by rfl))
  exact Chg.refl w10
 have hS8:∀ z,z=g8->yn w10 z:=fun z e=>by subst e;exact hD8
 have HQ:=ze (hc9.rat HX2.out hS8)
 have HP:=ze (HX3.out.chg hc9 (fun e=>by
  obtain ⟨cs,k1⟩:=HX3.out.heap
  exact xM HK8.out k1 (by decide) e.symm) hS8)
 have HW:=ze (HX4.out.chg hc9 (fun e=>by
  obtain ⟨cs,k1⟩:=HX4.out.heap
  exact xM HK8.out k1 (by decide) e.symm) hS8)
 have HN:=ze (HNM.out.chg hc9 (fun z hz e=>by have:=HG8.out;omega))
 have HCC:Hid (Chg (· =b) w ((((((((((w10.setCell ⟨g8,0,none⟩ (.int .u8 1)).setCell ⟨g8,1,none⟩ (.int .i64 x)).setCell ⟨g8,2,none⟩ (.slice A n4 c4)).setCell ⟨g8,3,none⟩ (.bool s)).setCell ⟨g8,4,none⟩ (.int .i64 y)).setCell ⟨g8,5,none⟩ (.slice B n5 c5)).setCell ⟨g8,6,none⟩ (.bool t)).setCell ⟨g8,7,none⟩ (.slice (some ⟨gp,0,none⟩) names.length names.length)).setCell ⟨g8,8,none⟩ (.slice none 0 0)).setCell ⟨g8,9,none⟩ (.slice (some ⟨gw,0,none⟩) rows.length rows.length))):=HC.out.trans hc9 (fun z hz e=>by have:=HG8.out;omega)
 clear hk9 hc9 hS8 hD8 HT HNM HC HX2 HX3 HX4 HK8
 go_wp2_with fail
 refine bodyPost_ret (v:=.agg #[.int .u8 1,.int .i64 x,.slice A n4 c4,.bool s,.int .i64 y,.slice B n5 c5,.bool t,.slice (some ⟨gp,0,none⟩) names.length names.length,.slice none 0 0,.slice (some ⟨gw,0,none⟩) rows.length rows.length]) (by simp [results,Tryz.results78,go_sem,e0,e1,e2,e3,e4,e5,e6,e7,e8,e9]) rfl ?_
 exact ⟨x,A,n4,c4,s,y,B,n5,c5,t,gp,gw,rfl,HQ.out,HP.out,HW.out,HN.out,HCC.out⟩
end Go.Proofs.YtkmcmmcencdcpaaGreatDoor
