/- Parts of the proof. -/
import Derived.Test.YthbmhkiphmcogaaGreatDoorMe38
import Derived.Test.YthbmhkiphmcogaaGreatDoorMe39
set_option linter.all false
namespace Go.Proofs.YthbmhkiphmcogaaGreatDoor
open Proofs.Tryz Go.RowKit Go.Deep
attribute [local go_sem ↓] Go.wp_at_zero Go.wp_at_succ
def zv3 (q:Rat) (w:World) (e:Ending) (w' :World):Prop:=
 ∃ (A1 A2 A3:Option Addr) (n1 c1 n2 c2 n3 c3:Nat),e= .returned (.tuple #[.agg #[.int .u8 1,str (zw q),.slice A1 n1 c1,.slice A2 n2 c2,.slice A3 n3 c3],.int .i64 0])/\Below w.heap.size w w'
set_option maxRecDepth 100000 in
set_option maxHeartbeats 8000000 in
theorem zki (n1 c1 n2 c2 n:Nat) (rA gA:Option Addr) (rows:List zQ) (goal:List zR) (s:List UInt8) (U:yE) (q:Rat) (w:World) (hr:yN w (.slice rA n1 c1) rows) (hg:vr w (.slice gA n2 c2) goal) (h1:VM rows s) (h2:zjb goal s)
 (hok:zty rows [s] goal n U) (hq:Rat.divInt (U.cell rows.length 0) (U.den*vH goal)=q) (hql:Z9 67108864 q) (hpl:Z9 67108864 (ze0 U 1 rows.length 0)) (hwl:∀ k,k<rows.length->Z9 67108864 (wtN U 1 rows.length (znr rows) (vH goal) (2*1+1) k)):
 Calls Tryz.prog 11 #[.slice rA n1 c1,.slice gA n2 c2] w (zv3 q w):=by
 obtain rfl:=hr.len
 have m:=zf w (.cells #[.int .u8 0,.string ⟨#[]⟩,.slice none 0 0,.slice none 0 0,.slice none 0 0] 44)
 have j:=ze (Blk.new w 44 #[.int .u8 0,.string ⟨#[]⟩,.slice none 0 0,.slice none 0 0,.slice none 0 0])
 have HR:=ze ((zT.below hr m).more m.size)
 have HG:=ze ((zk.below hg m).more m.size)
 have r:=ze m
 have H1:=ze h1
 have H2:=ze h2
 have aQ:=ze hok
 have HQ:=ze hq
 have aK:=ze hql
 have aM:=ze hpl
 have aL:=ze hwl
 clear hr hg h1 h2 hok m hq hql hpl hwl
 go_enter func11,ntmps11
 go_upto_region 1 with fail
 generalize w.alloc (.cells #[.int .u8 0,.string ⟨#[]⟩,.slice none 0 0,.slice none 0 0,.slice none 0 0] 44)=W0 at j HR HG r |-
 obtain ⟨F,an⟩:∃ F,F=w.heap.size:=⟨_,rfl⟩
 rw [<- an] at j |-
 have af:=ze an
 clear an
 have aB:=ze j.o.lt
 have aG:=zke rA gA rows.length c1 n2 c2 rows goal s W0 HR.o HG.o H1.o H2.o
 have aC:=ze aG
 clear aG
 go_wp2_with fail
 refine aC.o.mono ?_
 rintro e w1 ⟨b,nv,rfl,ao,ap,av,Q⟩
 obtain ⟨nA,nc,aD,_⟩:=id ap
 have aP:nv= .slice nA 1 nc:=aD
 clear aD
 subst aP
 replace j:=kb_ j Q
 replace HR:=ze ((zT.below HR.o Q).more Q.size)
 replace HG:=ze ((zk.below HG.o Q).more Q.size)
 have az:Hid (w.heap.size<=b):=Nat.le_trans r.o.size av
 have aF:Hid (F≠b):=by have:=aB.o;show _≠_;omega
 replace r:=eb_ r Q
 have aE:=zfs b rows.length c1 1 nc n2 c2 n rA nA gA rows [s] goal U w1 ao HR.o ap HG.o aQ.o
 have aq:=ze aE
 have aI:=ze ao
 clear aE Q ao ap av aB aC
 go_wp2_with fail
 refine aq.o.mono ?_
 rintro e Z ⟨x,A,n4,c4,s1,y,B,n5,c5,t,gp,gw,rfl,ak,ay,ar,aH,ah⟩
 rw [HQ.o] at ak
 have O:=ah.blk j.o aF.o
 have aw:Below w.heap.size w Z:=r.o.trans (ah.below r.o.size (fun z e=>by subst e;exact az.o))
 have m:=zf Z (.cells #[.int .u8 1,.int .i64 x,.slice A n4 c4,.bool s1,.int .i64 y,.slice B n5 c5,.bool t,.slice (some ⟨gp,0,none⟩) 1 1,.slice none 0 0,.slice (some ⟨gw,0,none⟩) rows.length rows.length] 80)
 have u:=ze (Blk.new Z 80 #[.int .u8 1,.int .i64 x,.slice A n4 c4,.bool s1,.int .i64 y,.slice B n5 c5,.bool t,.slice (some ⟨gp,0,none⟩) 1 1,.slice none 0 0,.slice (some ⟨gw,0,none⟩) rows.length rows.length])
 replace j:=ze (O.below m O.lt)
 replace r:=ze (ext aw m)
 have ab:=ze (ak.below m)
 have ac:=ze (ay.below m)
 have ad:=ze (ar.below m)
 have ag:=ze ((aH.below m).more (Nat.le_trans ah.size m.size))
 have am:Hid (F<Z.heap.size):=O.lt
 clear ak ay ar aH ah O aw m aq aI HR HG az aF
 go_upto_region 5 with fail
 generalize Z.alloc (.cells #[.int .u8 1,.int .i64 x,.slice A n4 c4,.bool s1,.int .i64 y,.slice B n5 c5,.bool t,.slice (some ⟨gp,0,none⟩) 1 1,.slice none 0 0,.slice (some ⟨gw,0,none⟩) rows.length rows.length] 80)=W3 at u j r ab ac ad ag |-
 obtain ⟨E,au⟩:∃ E,E=Z.heap.size:=⟨_,rfl⟩
 rw [<- au] at u am |-
 clear au
 have r0:=u.o.cell 0
 simp at r0
 have m:=zf W3 (.cells #[.int .u8 1,.string ⟨#[]⟩,.slice none 0 0,.slice none 0 0,.slice none 0 0] 44)
 have C:=ze (Blk.new W3 44 #[.int .u8 1,.string ⟨#[]⟩,.slice none 0 0,.slice none 0 0,.slice none 0 0])
 replace j:=kb_ j m
 have aj:Hid (E<W3.heap.size):=u.o.lt
 replace u:=kb_ u m
 replace r:=eb_ r m
 replace ab:=ze (ab.o.below m)
 replace ac:=ze (ac.o.below m)
 replace ad:=ze (ad.o.below m)
 replace ag:=ze ((ag.o.below m).more m.size)
 clear m
 go_upto_region 6 with fail
 generalize W3.alloc (.cells #[.int .u8 1,.string ⟨#[]⟩,.slice none 0 0,.slice none 0 0,.slice none 0 0] 44)=W4 at u j C r ab ac ad ag |-
 obtain ⟨D,ae⟩:∃ D,D=W3.heap.size:=⟨_,rfl⟩
 rw [<- ae] at C aj |-
 clear ae r0
 have r0:=u.o.cell 0
 simp at r0
 go_upto_region 8 with fail
 clear r0
 have r1:=u.o.cell 1
 have Y:=u.o.cell 2
 have r3:=u.o.cell 3
 have r4:=u.o.cell 4
 have V:=u.o.cell 5
 have r6:=u.o.cell 6
 have r7:=u.o.cell 7
 have X:=u.o.cell 9
 have l:=u.o.lt
 simp at r1 Y r3 r4 V r6 r7 X
 have aJ:=ze H1.o.len
 refine zt (S:=fun w' =>Hid (Below W4.heap.size W4 w')/\w'.cell? ⟨E,1,none⟩=some (.int .i64 x)/\w'.cell? ⟨E,2,none⟩=some (.slice A n4 c4)/\w'.cell? ⟨E,3,none⟩=some (.bool s1)/\w'.cell? ⟨E,4,none⟩=some (.int .i64 y)/\w'.cell? ⟨E,5,none⟩=some (.slice B n5 c5)/\w'.cell? ⟨E,6,none⟩=some (.bool t)/\w'.cell? ⟨E,7,none⟩=some (.slice (some ⟨gp,0,none⟩) 1 1)/\w'.cell? ⟨E,9,none⟩=some (.slice (some ⟨gw,0,none⟩) rows.length rows.length)) 2 9 11 rfl (by kernel_rfl) (by kernel_rfl) (by kernel_rfl) rfl (zl (zu W4) (fun hB=>⟨zh hB l r1,zh hB l Y,zh hB l r3,zh hB l r4,zh hB l V,zh hB l r6,zh hB l r7,zh hB l X⟩)) ?_ (fun hHeld=>?_)
 . intro _ _ _ _ _ h9;exact h9
 simp only [List.take_succ_cons,List.take_zero]
 iterate 2 refine ye ?_
 refine zU ?_
 refine HH.tk 3 ?_
 refine HH.tk 4 ?_
 refine HH.tk 5 ?_
 refine HH.tk 7 ?_
 refine HH.tk 8 ?_
 refine HH.rd 2 (fun K hK=>?_)
 go_simp
 go_at_call 29
 refine (V4 _ q _ (ab.o.below hHeld.1.out) aK.o).mono ?_
 rintro e w5 ⟨rfl,G⟩
 obtain ⟨T,hT⟩:∃ T:ByteArray,T=⟨(zw q).toArray⟩:=⟨_,rfl⟩
 rw [<- hT]
 have aO:=ze hT
 clear hT
 have I:=hHeld
 clear hHeld
 refine hK.out _ _ (zl (zr G I.1) (fun hB=>⟨zh hB l r1,zh hB l Y,zh hB l r3,zh hB l r4,zh hB l V,zh hB l r6,zh hB l r7,zh hB l X⟩)) (fun hHeld=>?_)
 clear I hK K
 try simp only [Act.put,xST]
 clear G
 refine HH.tk 10 ?_
 refine HH.rd 6 (fun K hK=>?_)
 go_simp
 go_at_call 30
 refine (zhc gp 1 (ze0 U 1 rows.length) nA nc [s] _ ((ag.o.below hHeld.1.out).more hHeld.1.out.size) (ac.o.below hHeld.1.out) (fun k hk=>by rw [show k=0 by omega];exact aM.o) (by omega)).mono ?_
 rintro e w6 ⟨L,N,d1,rfl,G⟩
 have I:=hHeld
 clear hHeld
 refine hK.out _ _ (zl (zr G I.1) (fun hB=>⟨zh hB l r1,zh hB l Y,zh hB l r3,zh hB l r4,zh hB l V,zh hB l r6,zh hB l r7,zh hB l X⟩)) (fun hHeld=>?_)
 clear I hK K
 try simp only [Act.put,xST]
 clear G
 refine HH.rd 9 (fun K hK=>?_)
 go_simp
 go_at_call 31
 refine (zjc gw rows.length _ _ (ad.o.below hHeld.1.out) aL.o (by have:=aJ.o;omega)).mono ?_
 rintro e w7 ⟨R,J,M,rfl,G⟩
 have I:=hHeld
 clear hHeld
 refine hK.out _ _ (zl (zr G I.1) (fun hB=>⟨zh hB l r1,zh hB l Y,zh hB l r3,zh hB l r4,zh hB l V,zh hB l r6,zh hB l r7,zh hB l X⟩)) (fun hHeld=>?_)
 clear I hK K
 try simp only [Act.put,xST]
 clear G
 have ai:=(hHeld.1).out
 try clear z0 z1 z2 z3 z4 zL y0 y1 y2 y3 y4 yL
 replace j:=kb_ j ai
 replace C:=kb_ C ai
 replace r:=eb_ r ai
 clear ai hHeld
 refine HH.done (by kernel_rfl) ?_
 simp only [List.drop_succ_cons,List.drop_zero]
 obtain ⟨z0,z1,z2,z3,z4,zL⟩:=bkc5 j.o
 obtain ⟨y0,y1,y2,y3,y4,yL⟩:=bkc5 C.o
 clear r1 Y r3 r4 V r6 r7 X l ab ac ad ag u zL yL
 have f1:=C.o.frozen 1
 have f2:=C.o.frozen 2
 have f4:=C.o.frozen 4
 have z5:=j.o.frozen 0
 have z6:=j.o.frozen 1
 have z7:=j.o.frozen 2
 have z8:=j.o.frozen 3
 have z9:=j.o.frozen 4
 have al:¬ F=D:=by have:=am.o;have:=aj.o;omega
 go_upto_region 13 with fail
 have ae:w.heap.size<=D:=by have:=af.o;have:=am.o;have:=aj.o;omega
 have aA:=((r.o.setCell (p:=⟨D,1,none⟩) ae (.string T)).setCell (p:=⟨D,2,none⟩) ae (.slice L N d1)).setCell (p:=⟨D,4,none⟩) ae (.slice R J M)
 have ax:=((C.o.set_ 1 (.string T)).set_ 2 (.slice L N d1)).set_ 4 (.slice R J M)
 have O:=((j.o.far (p:=⟨D,1,none⟩) al (.string T)).far (p:=⟨D,2,none⟩) al (.slice L N d1)).far (p:=⟨D,4,none⟩) al (.slice R J M)
 replace r:=ze aA
 replace C:=ze ax
 replace j:=ze O
 clear aA ax O f1 f2 f4 z0 z1 z2 z3 z4 z5 z6 z7 z8 z9 y0 y1 y2 y3 y4
 generalize ((w7.setCell ⟨D,1,none⟩ (.string T)).setCell ⟨D,2,none⟩ (.slice L N d1)).setCell ⟨D,4,none⟩ (.slice R J M)=W8 at r C j |-
 have y0:=C.o.cell 0
 have y1:=C.o.cell 1
 have y2:=C.o.cell 2
 have y3:=C.o.cell 3
 have y4:=C.o.cell 4
 have z0:=j.o.cell 0
 have z1:=j.o.cell 1
 have z2:=j.o.cell 2
 have z3:=j.o.cell 3
 have z4:=j.o.cell 4
 have z5:=j.o.frozen 0
 have z6:=j.o.frozen 1
 have z7:=j.o.frozen 2
 have z8:=j.o.frozen 3
 have z9:=j.o.frozen 4
 simp at y0 y1 y2 y3 y4 z0 z1 z2 z3 z4
 have aa:=(((((j.o.set_ 0 (.int .u8 1)).set_ 1 (.string T)).set_ 2 (.slice L N d1)).set_ 3 (.slice none 0 0)).set_ 4 (.slice R J M))
 have e0:=aa.cell 0
 have e1:=aa.cell 1
 have e2:=aa.cell 2
 have e3:=aa.cell 3
 have e4:=aa.cell 4
 simp at e0 e1 e2 e3 e4
 have aN:=ze (((((r.o.setCell (p:=⟨F,0,none⟩) (Nat.le_of_eq af.o.symm) (.int .u8 1)).setCell (p:=⟨F,1,none⟩) (Nat.le_of_eq af.o.symm) (.string T)).setCell (p:=⟨F,2,none⟩) (Nat.le_of_eq af.o.symm) (.slice L N d1)).setCell (p:=⟨F,3,none⟩) (Nat.le_of_eq af.o.symm) (.slice none 0 0)).setCell (p:=⟨F,4,none⟩) (Nat.le_of_eq af.o.symm) (.slice R J M))
 clear aa r C j
 go_wp2_with fail
 refine bodyPost_ret (v:=.tuple #[.agg #[.int .u8 1,.string T,.slice L N d1,.slice none 0 0,.slice R J M],.int .i64 0]) (by simp [results,results11,go_sem,e0,e1,e2,e3,e4]) rfl ?_
 exact ⟨_,_,_,_,_,_,_,_,_,by rw [aO.o],aN.o⟩
end Go.Proofs.YthbmhkiphmcogaaGreatDoor
