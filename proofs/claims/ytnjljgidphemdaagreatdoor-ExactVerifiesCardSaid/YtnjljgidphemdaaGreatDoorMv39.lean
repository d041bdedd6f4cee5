/- Parts of the proof. -/
import Derived.Test.YtnjljgidphemdaaGreatDoorMv37
import Derived.Test.YtnjljgidphemdaaGreatDoorMv25
set_option linter.all false
namespace Go.Proofs.YtnjljgidphemdaaGreatDoor
open Proofs.Tryz Go.RowKit Go.Deep
attribute [local go_sem ↓] Go.wp_at_zero Go.wp_at_succ
def zx7 (q:Rat) (w:World) (e:Ending) (w' :World):Prop:=
 ∃ (A1 A2 A3:Option Addr) (n1 c1 n2 c2 n3 c3:Nat),e= .returned (.tuple #[.agg #[.int .u8 1,str (zI q),.slice A1 n1 c1,.slice A2 n2 c2,.slice A3 n3 c3],.int .i64 0])/\Below w.heap.size w w'
set_option maxRecDepth 100000 in
set_option maxHeartbeats 8000000 in
theorem zj5 (n1 c1 n2 c2 n:Nat) (rA gA:Option Addr) (rows:List zU) (goal:List zu) (s:List UInt8) (U:yE) (q:Rat) (w:World) (hr:yS w (.slice rA n1 c1) rows) (hg:zV w (.slice gA n2 c2) goal) (h1:VS rows s) (h2:zkk goal s)
 (hok:zv2 rows [s] goal n U) (hq:Rat.divInt (U.cell rows.length 0) (U.den*vE goal)=q) (hql:Zu 67108864 q) (hpl:Zu 67108864 (zfj U 1 rows.length 0)) (hwl:∀ k,k<rows.length->Zu 67108864 (wtN U 1 rows.length (zoz rows) (vE goal) (2*1+1) k)):
 Calls prog 17 #[.slice rA n1 c1,.slice gA n2 c2] w (zx7 q w):=by
 obtain rfl:=hr.len
 have l:=zf w (.cells #[.int .u8 0,.string ⟨#[]⟩,.slice none 0 0,.slice none 0 0,.slice none 0 0] 29)
 have j:=ze (Blk.new w 29 #[.int .u8 0,.string ⟨#[]⟩,.slice none 0 0,.slice none 0 0,.slice none 0 0])
 have HR:=ze ((zH.below hr l).more l.size)
 have Y:=ze ((zh.below hg l).more l.size)
 obtain ⟨m,H1,H2,aK,HQ,aF,aG,aE⟩:=hz8 l h1 h2 hok hq hql hpl hwl
 clear hr hg h1 h2 hok l hq hql hpl hwl
 go_in
 go_upto_region 1 with fail
 generalize w.alloc (.cells #[.int .u8 0,.string ⟨#[]⟩,.slice none 0 0,.slice none 0 0,.slice none 0 0] 29)=W0 at j HR Y m |-
 obtain ⟨G,al⟩:=uQ w.heap.size
 rw [<- al] at j |-
 have X:=ze al
 clear al
 have aw:=ze j.o.lt
 have ay:=zls rA gA rows.length c1 n2 c2 rows goal s W0 HR.o Y.o H1.o H2.o
 have aq:=ze ay
 clear ay
 go_wp2_with fail
 refine aq.o.mono ?_
 rintro e w1 ⟨b,nv,rfl,ag,ah,au,ac⟩
 obtain ⟨nA,nc,aC,_⟩:=id ah
 have aI:nv= .slice nA 1 nc:=aC
 clear aC
 subst aI
 replace j:=kb_ j ac
 replace HR:=xre HR ac
 replace Y:=xte Y ac
 have aB:Hid (w.heap.size<=b):=uC m.o.size au
 have av:Hid (G≠b):=by have:=aw.o;show _≠_;omega
 replace m:=eb_ m ac
 have ax:=zgg b rows.length c1 1 nc n2 c2 n rA nA gA rows [s] goal U w1 ag HR.o ah Y.o aK.o
 have am:=ze ax
 have aM:=ze ag
 clear ax ac ag ah au aw aq
 go_wp2_with fail
 refine am.o.mono ?_
 rintro e w2 ⟨x,A,n4,c4,s1,y,B,n5,c5,t,gp,gw,rfl,ak,az,ap,aD,ae⟩
 rw [HQ.o] at ak
 have Q:=ae.blk j.o av.o
 have an:Below w.heap.size w w2:=m.o.trans (ae.below m.o.size (fun z e=>by subst e;exact aB.o))
 have l:=zf w2 (.cells #[.int .u8 1,.int .i64 x,.slice A n4 c4,.bool s1,.int .i64 y,.slice B n5 c5,.bool t,.slice (some ⟨gp,0,none⟩) 1 1,.slice none 0 0,.slice (some ⟨gw,0,none⟩) rows.length rows.length] 90)
 have r:=ze (Blk.new w2 90 #[.int .u8 1,.int .i64 x,.slice A n4 c4,.bool s1,.int .i64 y,.slice B n5 c5,.bool t,.slice (some ⟨gp,0,none⟩) 1 1,.slice none 0 0,.slice (some ⟨gw,0,none⟩) rows.length rows.length])
 replace j:=ze (Q.below l Q.lt)
 replace m:=ze (ext an l)
 have V:=ze (ak.below l)
 have Z:=ze (az.below l)
 have R:=ze (ap.below l)
 have aa:=ze ((aD.below l).more (uC ae.size l.size))
 have aj:Hid (G<w2.heap.size):=Q.lt
 clear ak az ap aD ae Q an l am aM HR Y aB av
 go_upto_region 5 with fail
 generalize w2.alloc (.cells #[.int .u8 1,.int .i64 x,.slice A n4 c4,.bool s1,.int .i64 y,.slice B n5 c5,.bool t,.slice (some ⟨gp,0,none⟩) 1 1,.slice none 0 0,.slice (some ⟨gw,0,none⟩) rows.length rows.length] 90)=W3 at r j m V Z R aa |-
 generalize aN:w2.heap.size=g9 at r aj |-
 clear aN;have r0:=(bq1 r).1
 have l:=zf W3 (.cells #[.int .u8 1,.string ⟨#[]⟩,.slice none 0 0,.slice none 0 0,.slice none 0 0] 29)
 have u:=ze (Blk.new W3 29 #[.int .u8 1,.string ⟨#[]⟩,.slice none 0 0,.slice none 0 0,.slice none 0 0])
 replace j:=kb_ j l
 have ai:Hid (g9<W3.heap.size):=r.o.lt
 replace r:=kb_ r l
 replace m:=eb_ m l
 replace V:=ze (V.o.below l)
 replace Z:=ze (Z.o.below l)
 replace R:=ze (R.o.below l)
 replace aa:=ze ((aa.o.below l).more l.size)
 clear l
 go_upto_region 6 with fail
 generalize W3.alloc (.cells #[.int .u8 1,.string ⟨#[]⟩,.slice none 0 0,.slice none 0 0,.slice none 0 0] 29)=W4 at r j u m V Z R aa |-
 obtain ⟨D,S⟩:=uQ W3.heap.size
 rw [<- S] at u ai |-
 clear S r0;have r0:=(bq1 r).1
 go_upto_region 8 with fail
 clear r0;have r1:=r.o.cell 1;have r2:=r.o.cell 2;have r3:=r.o.cell 3;have r4:=r.o.cell 4;have r5:=r.o.cell 5;have r6:=r.o.cell 6;have r7:=r.o.cell 7;have r9:=r.o.cell 9;have E:=r.o.lt;simp at r1 r2 r3 r4 r5 r6 r7 r9
 have aJ:=ze H1.o.len
 have ab:∀ w',Hid (Below W4.heap.size W4 w')->w'.cell? ⟨g9,1,none⟩=some (.int .i64 x)/\w'.cell? ⟨g9,2,none⟩=some (.slice A n4 c4)/\w'.cell? ⟨g9,3,none⟩=some (.bool s1)/\w'.cell? ⟨g9,4,none⟩=some (.int .i64 y)/\w'.cell? ⟨g9,5,none⟩=some (.slice B n5 c5)/\w'.cell? ⟨g9,6,none⟩=some (.bool t)/\w'.cell? ⟨g9,7,none⟩=some (.slice (some ⟨gp,0,none⟩) 1 1)/\w'.cell? ⟨g9,9,none⟩=some (.slice (some ⟨gw,0,none⟩) rows.length rows.length):=fun w' hB=>⟨zq hB E r1,zq hB E r2,zq hB E r3,zq hB E r4,zq hB E r5,zq hB E r6,zq hB E r7,zq hB E r9⟩
 refine xz ab 2 9 11 (zt W4) fun C=>?_
 simp only [xDR]
 iterate 2 refine yd ?_
 refine zQ ?_
 refine tK 3 ?_
 refine tK 4 ?_
 refine tK 5 ?_
 refine tK 7 ?_
 refine tK 8 ?_
 refine rK 2 fun K hK=>?_
 go_simp
 go_at_call 39
 refine (zdb _ q _ (V.o.below C.1.out) aF.o).mono ?_
 rintro e w5 ⟨rfl,F⟩
 obtain ⟨T,hT⟩:∃ T:ByteArray,T=⟨(zI q).toArray⟩:=⟨_,rfl⟩
 rw [<- hT]
 have aH:=ze hT
 clear hT
 refine hK.out _ _ (zo (zp F C.1) (ab _)) ?_
 clear hK K C
 intro C
 try simp only [Act.put,xST]
 clear F
 refine tK 10 ?_
 refine rK 6 fun K hK=>?_
 go_simp
 go_at_call 40
 refine (zix gp 1 (zfj U 1 rows.length) nA nc [s] _ ((aa.o.below C.1.out).more C.1.out.size) (Z.o.below C.1.out) (fun k hk=>by rw [show k=0 by omega];exact aG.o) (by omega)).mono ?_
 rintro e w6 ⟨J,M,L,rfl,F⟩
 refine hK.out _ _ (zo (zp F C.1) (ab _)) ?_
 clear hK K C
 intro C
 try simp only [Act.put,xST]
 clear F
 refine rK 9 fun K hK=>?_
 go_simp
 go_at_call 41
 refine (zlg gw rows.length _ _ (R.o.below C.1.out) aE.o (by have:=aJ.o;omega)).mono ?_
 rintro e w7 ⟨N,O,I,rfl,F⟩
 refine hK.out _ _ (zo (zp F C.1) (ab _)) ?_
 clear hK K C
 intro C
 try simp only [Act.put,xST]
 clear F
 have ad:=(C.1).out
 try clear z0 z1 z2 z3 z4 zL y0 y1 y2 y3 y4 yL
 replace j:=kb_ j ad
 replace u:=kb_ u ad
 replace m:=eb_ m ad
 clear ad C ab
 refine hdn ?_
 simp only [xDR]
 obtain ⟨z0,z1,z2,z3,z4,zL⟩:=zth j.o
 obtain ⟨y0,y1,y2,y3,y4,yL⟩:=zth u.o
 clear r1 r2 r3 r4 r5 r6 r7 r9 E V Z R aa r zL yL;have f1:=u.o.frozen 1;have f2:=u.o.frozen 2;have f4:=u.o.frozen 4;obtain ⟨z5,z6,z7,z8,z9⟩:=fq5 j
 have af:¬ G=D:=by have:=aj.o;have:=ai.o;omega
 go_upto_region 13 with fail
 have S:w.heap.size<=D:=by have:=X.o;have:=aj.o;have:=ai.o;omega
 have ar:=((m.o.setCell (p:=⟨D,1,none⟩) S (.string T)).setCell (p:=⟨D,2,none⟩) S (.slice J M L)).setCell (p:=⟨D,4,none⟩) S (.slice N O I)
 have ao:=((u.o.set_ 1 (.string T)).set_ 2 (.slice J M L)).set_ 4 (.slice N O I)
 have Q:=((j.o.far (p:=⟨D,1,none⟩) af (.string T)).far (p:=⟨D,2,none⟩) af (.slice J M L)).far (p:=⟨D,4,none⟩) af (.slice N O I)
 replace m:=ze ar
 replace u:=ze ao
 replace j:=ze Q
 clear ar ao Q f1 f2 f4 z0 z1 z2 z3 z4 z5 z6 z7 z8 z9 y0 y1 y2 y3 y4
 generalize ((w7.setCell ⟨D,1,none⟩ (.string T)).setCell ⟨D,2,none⟩ (.slice J M L)).setCell ⟨D,4,none⟩ (.slice N O I)=W8 at m u j |-
 have y0:=u.o.cell 0;have y1:=u.o.cell 1;have y2:=u.o.cell 2;have y3:=u.o.cell 3;have y4:=u.o.cell 4;have z0:=j.o.cell 0;have z1:=j.o.cell 1;have z2:=j.o.cell 2;have z3:=j.o.cell 3;have z4:=j.o.cell 4;obtain ⟨z5,z6,z7,z8,z9⟩:=fq5 j;simp at y0 y1 y2 y3 y4 z0 z1 z2 z3 z4
 have aA:=(((((j.o.set_ 0 (.int .u8 1)).set_ 1 (.string T)).set_ 2 (.slice J M L)).set_ 3 (.slice none 0 0)).set_ 4 (.slice N O I))
 obtain ⟨e0,e1,e2,e3,e4,_⟩:=bp5 aA
 have aL:=ze (((((m.o.setCell (p:=⟨G,0,none⟩) (Nat.le_of_eq X.o.symm) (.int .u8 1)).setCell (p:=⟨G,1,none⟩) (Nat.le_of_eq X.o.symm) (.string T)).setCell (p:=⟨G,2,none⟩) (Nat.le_of_eq X.o.symm) (.slice J M L)).setCell (p:=⟨G,3,none⟩) (Nat.le_of_eq X.o.symm) (.slice none 0 0)).setCell (p:=⟨G,4,none⟩) (Nat.le_of_eq X.o.symm) (.slice N O I))
 clear aA m u j
 go_wp2_with fail
 refine bodyPost_ret (v:=.tuple #[.agg #[.int .u8 1,.string T,.slice J M L,.slice none 0 0,.slice N O I],.int .i64 0]) (by simp [results,results17,go_sem,e0,e1,e2,e3,e4]) rfl ?_
 exact ⟨_,_,_,_,_,_,_,_,_,by rw [aH.o],aL.o⟩
end Go.Proofs.YtnjljgidphemdaaGreatDoor
