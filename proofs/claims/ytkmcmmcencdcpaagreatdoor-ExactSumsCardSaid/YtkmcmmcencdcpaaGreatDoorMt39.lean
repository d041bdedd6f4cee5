/- Parts of the proof: memory, numbers, walks of the functions that are called. -/
import Derived.Test.YtkmcmmcencdcpaaGreatDoorMt33
import Derived.Test.YtkmcmmcencdcpaaGreatDoorMt26
set_option linter.unusedVariables false
set_option linter.unusedSimpArgs false
namespace Go.Proofs.YtkmcmmcencdcpaaGreatDoor
open Go.RowKit Go.Deep
attribute [local go_sem ↓] Go.wp_at_zero Go.wp_at_succ
def zrs (q:Rat) (w:World) (e:Ending) (w' :World):Prop:=
 ∃ (A1 A2 A3:Option Addr) (n1 c1 n2 c2 n3 c3:Nat),e= .returned (.tuple #[.agg #[.int .u8 1,str (zT q),.slice A1 n1 c1,.slice A2 n2 c2,.slice A3 n3 c3],.int .i64 0])/\Below w.heap.size w w'
set_option maxRecDepth 100000 in
set_option maxHeartbeats 8000000 in
theorem zfx (n1 c1 n2 c2 n:Nat) (rA gA:Option Addr) (rows:List yU) (goal:List zG) (s:List UInt8) (U:yy) (q:Rat) (w:World) (hr:xD w (.slice rA n1 c1) rows) (hg:ya w (.slice gA n2 c2) goal) (h1:X4 rows s) (h2:zfu goal s)
 (hok:zpc rows [s] goal n U) (hq:Rat.divInt (U.cell rows.length 0) (U.den*xU goal)=q) (hql:ZW 67108864 q) (hpl:ZW 67108864 (zcc U 1 rows.length 0)) (hwl:∀ k,k<rows.length->ZW 67108864 (wtN U 1 rows.length (zju rows) (xU goal) (2*1+1) k)):
 Calls Tryz.prog 33 #[.slice rA n1 c1,.slice gA n2 c2] w (zrs q w):=by
 obtain rfl:=hr.len
 have hx:=zf w (.cells #[.int .u8 0,.string ⟨#[]⟩,.slice none 0 0,.slice none 0 0,.slice none 0 0] 47)
 have HK4:=ze (Blk.new w 47 #[.int .u8 0,.string ⟨#[]⟩,.slice none 0 0,.slice none 0 0,.slice none 0 0])
 have HR:=ze ((zV.below hr hx).more hx.size)
 have HG:=ze ((zk.below hg hx).more hx.size)
 have HW:=ze hx
 have H1:=ze h1
 have H2:=ze h2
 have HOK:=ze hok
 have HQ:=ze hq
 have HQL:=ze hql
 have HPL:=ze hpl
 have HWL:=ze hwl
 clear hr hg h1 h2 hok hx hq hql hpl hwl
 go_enter Tryz.func33,Tryz.ntmps33
 go_upto_region 1 with fail
 generalize w.alloc (.cells #[.int .u8 0,.string ⟨#[]⟩,.slice none 0 0,.slice none 0 0,.slice none 0 0] 47)=W0 at HK4 HR HG HW |-
 obtain ⟨g4,hg4⟩:∃ g4,g4=w.heap.size:=⟨_,rfl⟩
 rw [<- hg4] at HK4 |-
 have HG4:=ze hg4
 clear hg4
 have HLT4:=ze HK4.out.lt
 have hak:=zg1 rA gA rows.length c1 n2 c2 rows goal s W0 HR.out HG.out H1.out H2.out
 have HAK:=ze hak
 clear hak
 go_wp2_with fail
 refine HAK.out.mono ?_
 rintro e w1 ⟨b,nv,rfl,hB1,hn1,hbl,hb1⟩
 obtain ⟨nA,nc,env,_⟩:=id hn1
 have env1:nv= .slice nA 1 nc:=env
 clear env
 subst env1
 replace HK4:=kb_ HK4 hb1
 replace HR:=ze ((zV.below HR.out hb1).more hb1.size)
 replace HG:=ze ((zk.below HG.out hb1).more hb1.size)
 have HBB:Hid (w.heap.size<=b):=Nat.le_trans HW.out.size hbl
 have HG4B:Hid (g4≠b):=by have:=HLT4.out;show _≠_;omega
 replace HW:=eb_ HW hb1
 have hpr:=zcu b rows.length c1 1 nc n2 c2 n rA nA gA rows [s] goal U w1 hB1 HR.out hn1 HG.out HOK.out
 have HPR:=ze hpr
 have HB1:=ze hB1
 clear hpr hb1 hB1 hn1 hbl HLT4 HAK
 go_wp2_with fail
 refine HPR.out.mono ?_
 rintro e w2 ⟨x,A,n4,c4,s1,y,B,n5,c5,t,gp,gw,rfl,hqq,hpp,hww,hnn,hcc⟩
 rw [HQ.out] at hqq
 have hk4:=hcc.blk HK4.out HG4B.out
 have hw2:Below w.heap.size w w2:=HW.out.trans (hcc.below HW.out.size (fun z e=>by subst e;exact HBB.out))
 have hx:=zf w2 (.cells #[.int .u8 1,.int .i64 x,.slice A n4 c4,.bool s1,.int .i64 y,.slice B n5 c5,.bool t,.slice (some ⟨gp,0,none⟩) 1 1,.slice none 0 0,.slice (some ⟨gw,0,none⟩) rows.length rows.length] 131)
 have HK9:=ze (Blk.new w2 131 #[.int .u8 1,.int .i64 x,.slice A n4 c4,.bool s1,.int .i64 y,.slice B n5 c5,.bool t,.slice (some ⟨gp,0,none⟩) 1 1,.slice none 0 0,.slice (some ⟨gw,0,none⟩) rows.length rows.length])
 replace HK4:=ze (hk4.below hx hk4.lt)
 replace HW:=ze (ext hw2 hx)
 have HQQ:=ze (hqq.below hx)
 have HPP:=ze (hpp.below hx)
 have HWW:=ze (hww.below hx)
 have HNN:=ze ((hnn.below hx).more (Nat.le_trans hcc.size hx.size))
 have HG4L:Hid (g4<w2.heap.size):=hk4.lt
 clear hqq hpp hww hnn hcc hk4 hw2 hx HPR HB1 HR HG HBB HG4B
 go_upto_region 5 with fail
 generalize w2.alloc (.cells #[.int .u8 1,.int .i64 x,.slice A n4 c4,.bool s1,.int .i64 y,.slice B n5 c5,.bool t,.slice (some ⟨gp,0,none⟩) 1 1,.slice none 0 0,.slice (some ⟨gw,0,none⟩) rows.length rows.length] 131)=W3 at HK9 HK4 HW HQQ HPP HWW HNN |-
 obtain ⟨g9,hg9⟩:∃ g9,g9=w2.heap.size:=⟨_,rfl⟩
 rw [<- hg9] at HK9 HG4L |-
 clear hg9
 have r0:=HK9.out.cell 0
 simp at r0
 have hx:=zf W3 (.cells #[.int .u8 1,.string ⟨#[]⟩,.slice none 0 0,.slice none 0 0,.slice none 0 0] 47)
 have HK10:=ze (Blk.new W3 47 #[.int .u8 1,.string ⟨#[]⟩,.slice none 0 0,.slice none 0 0,.slice none 0 0])
 replace HK4:=kb_ HK4 hx
 have HG9L:Hid (g9<W3.heap.size):=HK9.out.lt
 replace HK9:=kb_ HK9 hx
 replace HW:=eb_ HW hx
 replace HQQ:=ze (HQQ.out.below hx)
 replace HPP:=ze (HPP.out.below hx)
 replace HWW:=ze (HWW.out.below hx)
 replace HNN:=ze ((HNN.out.below hx).more hx.size)
 clear hx
 go_upto_region 6 with fail
 generalize W3.alloc (.cells #[.int .u8 1,.string ⟨#[]⟩,.slice none 0 0,.slice none 0 0,.slice none 0 0] 47)=W4 at HK9 HK4 HK10 HW HQQ HPP HWW HNN |-
 obtain ⟨g10,hg10⟩:∃ g10,g10=W3.heap.size:=⟨_,rfl⟩
 rw [<- hg10] at HK10 HG9L |-
 clear hg10 r0
 have r0:=HK9.out.cell 0
 simp at r0
 go_upto_region 8 with fail
 clear r0
 have r1:=HK9.out.cell 1
 have r2:=HK9.out.cell 2
 have r3:=HK9.out.cell 3
 have r4:=HK9.out.cell 4
 have r5:=HK9.out.cell 5
 have r6:=HK9.out.cell 6
 have r7:=HK9.out.cell 7
 have r9:=HK9.out.cell 9
 have rL:=HK9.out.lt
 simp at r1 r2 r3 r4 r5 r6 r7 r9
 have HLR:=ze H1.out.len
 refine zr (S:=fun w' =>Hid (Below W4.heap.size W4 w')/\w'.cell? ⟨g9,1,none⟩=some (.int .i64 x)/\w'.cell? ⟨g9,2,none⟩=some (.slice A n4 c4)/\w'.cell? ⟨g9,3,none⟩=some (.bool s1)/\w'.cell? ⟨g9,4,none⟩=some (.int .i64 y)/\w'.cell? ⟨g9,5,none⟩=some (.slice B n5 c5)/\w'.cell? ⟨g9,6,none⟩=some (.bool t)/\w'.cell? ⟨g9,7,none⟩=some (.slice (some ⟨gp,0,none⟩) 1 1)/\w'.cell? ⟨g9,9,none⟩=some (.slice (some ⟨gw,0,none⟩) rows.length rows.length)) 2 9 11 rfl (by kernel_rfl) (by kernel_rfl) (by kernel_rfl) rfl (zm (zv W4) (fun hB=>⟨zh hB rL r1,zh hB rL r2,zh hB rL r3,zh hB rL r4,zh hB rL r5,zh hB rL r6,zh hB rL r7,zh hB rL r9⟩)) ?_ (fun hHeld=>?_)
 . intro _ _ _ _ _ h9;exact h9
 simp only [List.take_succ_cons,List.take_zero]
 iterate 2 refine zW ?_
 refine zM ?_
 refine HH.tk 3 ?_
 refine HH.tk 4 ?_
 refine HH.tk 5 ?_
 refine HH.tk 7 ?_
 refine HH.tk 8 ?_
 refine HH.rd 2 (fun K hK=>?_)
 go_simp
 go_at_call 79
 refine (zaa _ q _ (HQQ.out.below hHeld.1.out) HQL.out).mono ?_
 rintro e w5 ⟨rfl,hb2⟩
 obtain ⟨T,hT⟩:∃ T:ByteArray,T=⟨(zT q).toArray⟩:=⟨_,rfl⟩
 rw [<- hT]
 have HTT:=ze hT
 clear hT
 have hH0:=hHeld
 clear hHeld
 refine hK.out _ _ (zm (zt hb2 hH0.1) (fun hB=>⟨zh hB rL r1,zh hB rL r2,zh hB rL r3,zh hB rL r4,zh hB rL r5,zh hB rL r6,zh hB rL r7,zh hB rL r9⟩)) (fun hHeld=>?_)
 clear hH0 hK K
 try simp only [Act.put,List.setIfInBounds_toArray,List.set_cons_zero,List.set_cons_succ]
 clear hb2
 refine HH.tk 10 ?_
 refine HH.rd 6 (fun K hK=>?_)
 go_simp
 go_at_call 80
 refine (zer gp 1 (zcc U 1 rows.length) nA nc [s] _ ((HNN.out.below hHeld.1.out).more hHeld.1.out.size) (HPP.out.below hHeld.1.out) (fun k hk=>by rw [show k=0 by omega];exact HPL.out) (by omega)).mono ?_
 rintro e w6 ⟨B1,m1,d1,rfl,hb2⟩
 have hH0:=hHeld
 clear hHeld
 refine hK.out _ _ (zm (zt hb2 hH0.1) (fun hB=>⟨zh hB rL r1,zh hB rL r2,zh hB rL r3,zh hB rL r4,zh hB rL r5,zh hB rL r6,zh hB rL r7,zh hB rL r9⟩)) (fun hHeld=>?_)
 clear hH0 hK K
 try simp only [Act.put,List.setIfInBounds_toArray,List.set_cons_zero,List.set_cons_succ]
 clear hb2
 refine HH.rd 9 (fun K hK=>?_)
 go_simp
 go_at_call 81
 refine (zgy gw rows.length _ _ (HWW.out.below hHeld.1.out) HWL.out (by have:=HLR.out;omega)).mono ?_
 rintro e w7 ⟨B2,m2,d2,rfl,hb2⟩
 have hH0:=hHeld
 clear hHeld
 refine hK.out _ _ (zm (zt hb2 hH0.1) (fun hB=>⟨zh hB rL r1,zh hB rL r2,zh hB rL r3,zh hB rL r4,zh hB rL r5,zh hB rL r6,zh hB rL r7,zh hB rL r9⟩)) (fun hHeld=>?_)
 clear hH0 hK K
 try simp only [Act.put,List.setIfInBounds_toArray,List.set_cons_zero,List.set_cons_succ]
 clear hb2
 have HBY:=(hHeld.1).out
 try clear z0 z1 z2 z3 z4 zL y0 y1 y2 y3 y4 yL
 replace HK4:=kb_ HK4 HBY
 replace HK10:=kb_ HK10 HBY
 replace HW:=eb_ HW HBY
 clear HBY hHeld
 refine HH.done (by kernel_rfl) ?_
 simp only [List.drop_succ_cons,List.drop_zero]
 obtain ⟨z0,z1,z2,z3,z4,zL⟩:=bkc5 HK4.out
 obtain ⟨y0,y1,y2,y3,y4,yL⟩:=bkc5 HK10.out
 clear r1 r2 r3 r4 r5 r6 r7 r9 rL HQQ HPP HWW HNN HK9 zL yL
 have f1:=HK10.out.frozen 1
 have f2:=HK10.out.frozen 2
 have f4:=HK10.out.frozen 4
 have z5:=HK4.out.frozen 0
 have z6:=HK4.out.frozen 1
 have z7:=HK4.out.frozen 2
 have z8:=HK4.out.frozen 3
 have z9:=HK4.out.frozen 4
 have hne:¬ g4=g10:=by have:=HG4L.out;have:=HG9L.out;omega
 go_upto_region 13 with fail
 have hg10:w.heap.size<=g10:=by have:=HG4.out;have:=HG4L.out;have:=HG9L.out;omega
 have hw8:=((HW.out.setCell (p:=⟨g10,1,none⟩) hg10 (.string T)).setCell (p:=⟨g10,2,none⟩) hg10 (.slice B1 m1 d1)).setCell (p:=⟨g10,4,none⟩) hg10 (.slice B2 m2 d2)
 have hk10:=((HK10.out.set_ 1 (.string T)).set_ 2 (.slice B1 m1 d1)).set_ 4 (.slice B2 m2 d2)
 have hk4:=((HK4.out.far (p:=⟨g10,1,none⟩) hne (.string T)).far (p:=⟨g10,2,none⟩) hne (.slice B1 m1 d1)).far (p:=⟨g10,4,none⟩) hne (.slice B2 m2 d2)
 replace HW:=ze hw8
 replace HK10:=ze hk10
 replace HK4:=ze hk4
 clear hw8 hk10 hk4 f1 f2 f4 z0 z1 z2 z3 z4 z5 z6 z7 z8 z9 y0 y1 y2 y3 y4
 generalize ((w7.setCell ⟨g10,1,none⟩ (.string T)).setCell ⟨g10,2,none⟩ (.slice B1 m1 d1)).setCell ⟨g10,4,none⟩ (.slice B2 m2 d2)=W8 at HW HK10 HK4 |-
 have y0:=HK10.out.cell 0
 have y1:=HK10.out.cell 1
 have y2:=HK10.out.cell 2
 have y3:=HK10.out.cell 3
 have y4:=HK10.out.cell 4
 have z0:=HK4.out.cell 0
 have z1:=HK4.out.cell 1
 have z2:=HK4.out.cell 2
 have z3:=HK4.out.cell 3
 have z4:=HK4.out.cell 4
 have z5:=HK4.out.frozen 0
 have z6:=HK4.out.frozen 1
 have z7:=HK4.out.frozen 2
 have z8:=HK4.out.frozen 3
 have z9:=HK4.out.frozen 4
 simp at y0 y1 y2 y3 y4 z0 z1 z2 z3 z4
 have hk9:=(((((HK4.out.set_ 0 (.int .u8 1)).set_ 1 (.string T)).set_ 2 (.slice B1 m1 d1)).set_ 3 (.slice none 0 0)).set_ 4 (.slice B2 m2 d2))
 have e0:=hk9.cell 0
 have e1:=hk9.cell 1
 have e2:=hk9.cell 2
 have e3:=hk9.cell 3
 have e4:=hk9.cell 4
 simp at e0 e1 e2 e3 e4
 have HWX:=ze (((((HW.out.setCell (p:=⟨g4,0,none⟩) (Nat.le_of_eq HG4.out.symm) (.int .u8 1)).setCell (p:=⟨g4,1,none⟩) (Nat.le_of_eq HG4.out.symm) (.string T)).setCell (p:=⟨g4,2,none⟩) (Nat.le_of_eq HG4.out.symm) (.slice B1 m1 d1)).setCell (p:=⟨g4,3,none⟩) (Nat.le_of_eq HG4.out.symm) (.slice none 0 0)).setCell (p:=⟨g4,4,none⟩) (Nat.le_of_eq HG4.out.symm) (.slice B2 m2 d2))
 clear hk9 HW HK10 HK4
 go_wp2_with fail
 refine bodyPost_ret (v:=.tuple #[.agg #[.int .u8 1,.string T,.slice B1 m1 d1,.slice none 0 0,.slice B2 m2 d2],.int .i64 0]) (by simp [results,Tryz.results33,go_sem,e0,e1,e2,e3,e4]) rfl ?_
 exact ⟨_,_,_,_,_,_,_,_,_,by rw [HTT.out],HWX.out⟩
end Go.Proofs.YtkmcmmcencdcpaaGreatDoor
