/- Parts of the proof. -/
import Derived.Test.YtofmkndhocinmaaGreatDoorMs36
import Derived.Test.YtofmkndhocinmaaGreatDoorMs23
set_option linter.all false
namespace Go.Proofs.YtofmkndhocinmaaGreatDoor
open Proofs.Tryz Go.RowKit Go.Deep
attribute [local go_sem ↓] Go.wp_at_zero Go.wp_at_succ
def zt8 (q:Rat) (w:World) (e:Ending) (w' :World):Prop:=
 ∃ (A1 A2 A3:Option Addr) (n1 c1 n2 c2 n3 c3:Nat),e= .returned (.tuple #[.agg #[.int .u8 1,str (zu q),.slice A1 n1 c1,.slice A2 n2 c2,.slice A3 n3 c3],.int .i64 0])/\Below w.heap.size w w'
set_option maxRecDepth 100000 in
set_option maxHeartbeats 8000000 in
theorem zg3 (n1 c1 n2 c2 n:Nat) (rA gA:Option Addr) (rows:List zF) (goal:List zm) (s:List UInt8) (U:y8) (q:Rat) (w:World) (hr:yM w (.slice rA n1 c1) rows) (hg:zZ w (.slice gA n2 c2) goal) (h1:XB rows s) (h2:zhg goal s)
 (hok:zr7 rows [s] goal n U) (hq:Rat.divInt (U.cell rows.length 0) (U.den*xV goal)=q) (hql:xS 67108864 q) (hpl:xS 67108864 (zc3 U 1 rows.length 0)) (hwl:∀ k,k<rows.length->xS 67108864 (wtN U 1 rows.length (zlf rows) (xV goal) (2*1+1) k)):
 Calls prog 16 #[.slice rA n1 c1,.slice gA n2 c2] w (zt8 q w):=by
 obtain rfl:=hr.len
 have l:=zf w (.cells #[.int .u8 0,.string ⟨#[]⟩,.slice none 0 0,.slice none 0 0,.slice none 0 0] 51)
 have j:=ze (Blk.new w 51 #[.int .u8 0,.string ⟨#[]⟩,.slice none 0 0,.slice none 0 0,.slice none 0 0])
 have HR:=ze ((zW.below hr l).more l.size)
 have X:=ze ((zi.below hg l).more l.size)
 obtain ⟨m,H1,H2,aJ,HQ,aE,aF,aD⟩:=hz8 l h1 h2 hok hq hql hpl hwl
 clear hr hg h1 h2 hok l hq hql hpl hwl
 go_in
 go_upto_region 1 with fail
 generalize w.alloc (.cells #[.int .u8 0,.string ⟨#[]⟩,.slice none 0 0,.slice none 0 0,.slice none 0 0] 51)=W0 at j HR X m |-
 obtain ⟨G,ak⟩:=uQ w.heap.size
 rw [<- ak] at j |-
 have V:=ze ak
 clear ak
 have av:=ze j.o.lt
 have ax:=zii rA gA rows.length c1 n2 c2 rows goal s W0 HR.o X.o H1.o H2.o
 have ap:=ze ax
 clear ax
 go_wp2_with fail
 refine ap.o.mono ?_
 rintro e w1 ⟨b,nv,rfl,af,ag,ar,ab⟩
 obtain ⟨nA,nc,aB,_⟩:=id ag
 have aH:nv= .slice nA 1 nc:=aB
 clear aB
 subst aH
 replace j:=kb_ j ab
 replace HR:=xre HR ab
 replace X:=xte X ab
 have aA:Hid (w.heap.size<=b):=uC m.o.size ar
 have au:Hid (G≠b):=by have:=av.o;show _≠_;omega
 replace m:=eb_ m ab
 have aw:=zdu b rows.length c1 1 nc n2 c2 n rA nA gA rows [s] goal U w1 af HR.o ag X.o aJ.o
 have al:=ze aw
 have aL:=ze af
 clear aw ab af ag ar av ap
 go_wp2_with fail
 refine al.o.mono ?_
 rintro e w2 ⟨x,A,n4,c4,s1,y,B,n5,c5,t,gp,gw,rfl,aj,ay,ao,aC,ad⟩
 rw [HQ.o] at aj
 have O:=ad.blk j.o au.o
 have am:Below w.heap.size w w2:=m.o.trans (ad.below m.o.size (fun z e=>by subst e;exact aA.o))
 have l:=zf w2 (.cells #[.int .u8 1,.int .i64 x,.slice A n4 c4,.bool s1,.int .i64 y,.slice B n5 c5,.bool t,.slice (some ⟨gp,0,none⟩) 1 1,.slice none 0 0,.slice (some ⟨gw,0,none⟩) rows.length rows.length] 90)
 have r:=ze (Blk.new w2 90 #[.int .u8 1,.int .i64 x,.slice A n4 c4,.bool s1,.int .i64 y,.slice B n5 c5,.bool t,.slice (some ⟨gp,0,none⟩) 1 1,.slice none 0 0,.slice (some ⟨gw,0,none⟩) rows.length rows.length])
 replace j:=ze (O.below l O.lt)
 replace m:=ze (ext am l)
 have S:=ze (aj.below l)
 have Y:=ze (ay.below l)
 have Q:=ze (ao.below l)
 have Z:=ze ((aC.below l).more (uC ad.size l.size))
 have ai:Hid (G<w2.heap.size):=O.lt
 clear aj ay ao aC ad O am l al aL HR X aA au
 go_upto_region 5 with fail
 generalize w2.alloc (.cells #[.int .u8 1,.int .i64 x,.slice A n4 c4,.bool s1,.int .i64 y,.slice B n5 c5,.bool t,.slice (some ⟨gp,0,none⟩) 1 1,.slice none 0 0,.slice (some ⟨gw,0,none⟩) rows.length rows.length] 90)=W3 at r j m S Y Q Z |-
 generalize aM:w2.heap.size=g9 at r ai |-
 clear aM;have r0:=(bq1 r).1
 have l:=zf W3 (.cells #[.int .u8 1,.string ⟨#[]⟩,.slice none 0 0,.slice none 0 0,.slice none 0 0] 51)
 have u:=ze (Blk.new W3 51 #[.int .u8 1,.string ⟨#[]⟩,.slice none 0 0,.slice none 0 0,.slice none 0 0])
 replace j:=kb_ j l
 have ah:Hid (g9<W3.heap.size):=r.o.lt
 replace r:=kb_ r l
 replace m:=eb_ m l
 replace S:=ze (S.o.below l)
 replace Y:=ze (Y.o.below l)
 replace Q:=ze (Q.o.below l)
 replace Z:=ze ((Z.o.below l).more l.size)
 clear l
 go_upto_region 6 with fail
 generalize W3.alloc (.cells #[.int .u8 1,.string ⟨#[]⟩,.slice none 0 0,.slice none 0 0,.slice none 0 0] 51)=W4 at r j u m S Y Q Z |-
 obtain ⟨D,R⟩:=uQ W3.heap.size
 rw [<- R] at u ah |-
 clear R r0;have r0:=(bq1 r).1
 go_upto_region 8 with fail
 clear r0;have r1:=r.o.cell 1;have r2:=r.o.cell 2;have r3:=r.o.cell 3;have r4:=r.o.cell 4;have r5:=r.o.cell 5;have r6:=r.o.cell 6;have r7:=r.o.cell 7;have r9:=r.o.cell 9;have E:=r.o.lt;simp at r1 r2 r3 r4 r5 r6 r7 r9
 have aI:=ze H1.o.len
 have aa:∀ w',Hid (Below W4.heap.size W4 w')->w'.cell? ⟨g9,1,none⟩=some (.int .i64 x)/\w'.cell? ⟨g9,2,none⟩=some (.slice A n4 c4)/\w'.cell? ⟨g9,3,none⟩=some (.bool s1)/\w'.cell? ⟨g9,4,none⟩=some (.int .i64 y)/\w'.cell? ⟨g9,5,none⟩=some (.slice B n5 c5)/\w'.cell? ⟨g9,6,none⟩=some (.bool t)/\w'.cell? ⟨g9,7,none⟩=some (.slice (some ⟨gp,0,none⟩) 1 1)/\w'.cell? ⟨g9,9,none⟩=some (.slice (some ⟨gw,0,none⟩) rows.length rows.length):=fun w' hB=>⟨zk hB E r1,zk hB E r2,zk hB E r3,zk hB E r4,zk hB E r5,zk hB E r6,zk hB E r7,zk hB E r9⟩
 refine xb aa 2 9 11 (zw W4) fun C=>?_
 simp only [xDR]
 iterate 2 refine zP ?_
 refine zD ?_
 refine tK 3 ?_
 refine tK 4 ?_
 refine tK 5 ?_
 refine tK 7 ?_
 refine tK 8 ?_
 refine rK 2 fun K hK=>?_
 go_simp
 go_at_call 39
 refine (Xs _ q _ (S.o.below C.1.out) aE.o).mono ?_
 rintro e w5 ⟨rfl,F⟩
 obtain ⟨T,hT⟩:∃ T:ByteArray,T=⟨(zu q).toArray⟩:=⟨_,rfl⟩
 rw [<- hT]
 have aG:=ze hT
 clear hT
 refine hK.out _ _ (zl (zo F C.1) (aa _)) ?_
 clear hK K C
 intro C
 try simp only [Act.put,xST]
 clear F
 refine tK 10 ?_
 refine rK 6 fun K hK=>?_
 go_simp
 go_at_call 40
 refine (zfx gp 1 (zc3 U 1 rows.length) nA nc [s] _ ((Z.o.below C.1.out).more C.1.out.size) (Y.o.below C.1.out) (fun k hk=>by rw [show k=0 by omega];exact aF.o) (by omega)).mono ?_
 rintro e w6 ⟨J,L,d1,rfl,F⟩
 refine hK.out _ _ (zl (zo F C.1) (aa _)) ?_
 clear hK K C
 intro C
 try simp only [Act.put,xST]
 clear F
 refine rK 9 fun K hK=>?_
 go_simp
 go_at_call 41
 refine (zh5 gw rows.length _ _ (Q.o.below C.1.out) aD.o (by have:=aI.o;omega)).mono ?_
 rintro e w7 ⟨M,N,I,rfl,F⟩
 refine hK.out _ _ (zl (zo F C.1) (aa _)) ?_
 clear hK K C
 intro C
 try simp only [Act.put,xST]
 clear F
 have ac:=(C.1).out
 try clear z0 z1 z2 z3 z4 zL y0 y1 y2 y3 y4 yL
 replace j:=kb_ j ac
 replace u:=kb_ u ac
 replace m:=eb_ m ac
 clear ac C aa
 refine hdn ?_
 simp only [xDR]
 obtain ⟨z0,z1,z2,z3,z4,zL⟩:=bkc5 j.o
 obtain ⟨y0,y1,y2,y3,y4,yL⟩:=bkc5 u.o
 clear r1 r2 r3 r4 r5 r6 r7 r9 E S Y Q Z r zL yL;have f1:=u.o.frozen 1;have f2:=u.o.frozen 2;have f4:=u.o.frozen 4;obtain ⟨z5,z6,z7,z8,z9⟩:=fq5 j
 have ae:¬ G=D:=by have:=ai.o;have:=ah.o;omega
 go_upto_region 13 with fail
 have R:w.heap.size<=D:=by have:=V.o;have:=ai.o;have:=ah.o;omega
 have aq:=((m.o.setCell (p:=⟨D,1,none⟩) R (.string T)).setCell (p:=⟨D,2,none⟩) R (.slice J L d1)).setCell (p:=⟨D,4,none⟩) R (.slice M N I)
 have an:=((u.o.set_ 1 (.string T)).set_ 2 (.slice J L d1)).set_ 4 (.slice M N I)
 have O:=((j.o.far (p:=⟨D,1,none⟩) ae (.string T)).far (p:=⟨D,2,none⟩) ae (.slice J L d1)).far (p:=⟨D,4,none⟩) ae (.slice M N I)
 replace m:=ze aq
 replace u:=ze an
 replace j:=ze O
 clear aq an O f1 f2 f4 z0 z1 z2 z3 z4 z5 z6 z7 z8 z9 y0 y1 y2 y3 y4
 generalize ((w7.setCell ⟨D,1,none⟩ (.string T)).setCell ⟨D,2,none⟩ (.slice J L d1)).setCell ⟨D,4,none⟩ (.slice M N I)=W8 at m u j |-
 have y0:=u.o.cell 0;have y1:=u.o.cell 1;have y2:=u.o.cell 2;have y3:=u.o.cell 3;have y4:=u.o.cell 4;have z0:=j.o.cell 0;have z1:=j.o.cell 1;have z2:=j.o.cell 2;have z3:=j.o.cell 3;have z4:=j.o.cell 4;obtain ⟨z5,z6,z7,z8,z9⟩:=fq5 j;simp at y0 y1 y2 y3 y4 z0 z1 z2 z3 z4
 have az:=(((((j.o.set_ 0 (.int .u8 1)).set_ 1 (.string T)).set_ 2 (.slice J L d1)).set_ 3 (.slice none 0 0)).set_ 4 (.slice M N I))
 obtain ⟨e0,e1,e2,e3,e4,_⟩:=bp5 az
 have aK:=ze (((((m.o.setCell (p:=⟨G,0,none⟩) (Nat.le_of_eq V.o.symm) (.int .u8 1)).setCell (p:=⟨G,1,none⟩) (Nat.le_of_eq V.o.symm) (.string T)).setCell (p:=⟨G,2,none⟩) (Nat.le_of_eq V.o.symm) (.slice J L d1)).setCell (p:=⟨G,3,none⟩) (Nat.le_of_eq V.o.symm) (.slice none 0 0)).setCell (p:=⟨G,4,none⟩) (Nat.le_of_eq V.o.symm) (.slice M N I))
 clear az m u j
 go_wp2_with fail
 refine bodyPost_ret (v:=.tuple #[.agg #[.int .u8 1,.string T,.slice J L d1,.slice none 0 0,.slice M N I],.int .i64 0]) (by simp [results,results16,go_sem,e0,e1,e2,e3,e4]) rfl ?_
 exact ⟨_,_,_,_,_,_,_,_,_,by rw [aG.o],aK.o⟩
end Go.Proofs.YtofmkndhocinmaaGreatDoor
