/- Parts of the proof: memory, numbers, walks of the functions that are called. -/
import Derived.Deep.DrawnRows
import Derived.Test.YtkmcmmcencdcpaaGreatDoorMt13
set_option linter.unusedVariables false
set_option linter.unusedSimpArgs false
set_option maxRecDepth 100000
set_option maxHeartbeats 32000000
namespace Go.Proofs.YtkmcmmcencdcpaaGreatDoor
open Go.RowKit Go.Deep
attribute [local go_sem ↓] Go.wp_at_zero Go.wp_at_succ
theorem Yu (q:Rat):q=Rat.divInt q.num q.den:=(Rat.num_divInt_den q).symm
theorem zog (q:Rat):((q.den:Int):Rat)≠0:=by
 have:=q.den_nz
 exact_mod_cast this
theorem zpn (x y:Rat):Rat.divInt (x.num*y.den+y.num*x.den) ((x.den:Int)*y.den)=x+y:=by
 have h1:=zog x
 have h2:=zog y
 conv=>rhs;rw [Yu x,Yu y]
 simp only [Rat.divInt_eq_div]
 push_cast
 push_cast at h1 h2
 grind
theorem zpu (x y:Rat):Rat.divInt (x.num*y.num) ((x.den:Int)*y.den)=x*y:=by
 have h1:=zog x
 have h2:=zog y
 conv=>rhs;rw [Yu x,Yu y]
 simp only [Rat.divInt_eq_div]
 push_cast
 push_cast at h1 h2
 grind
def ZW (M:Nat) (q:Rat):Prop:=len 4294967296 q.num.natAbs<=M/\len 4294967296 (q.den:Int).natAbs<=M
theorem Z6 {a b:Int} {M K:Nat} (h1:len 4294967296 a.natAbs<=M) (h2:len 4294967296 b.natAbs<=K):len 4294967296 (a*b).natAbs<=M+K:=by
 rw [Int.natAbs_mul]
 exact Nat.le_trans (X6 (by omega) _ _) (by omega)
theorem zia {a b:Int} {M:Nat} (h1:len 4294967296 a.natAbs<=M) (h2:len 4294967296 b.natAbs<=M):len 4294967296 (a+b).natAbs<=M+1:=by
 have h3:(a+b).natAbs<=a.natAbs+b.natAbs:=Int.natAbs_add_le a b
 refine Nat.le_trans (xS (by omega) h3) (Nat.le_trans (zlf (by omega) _ _) (by omega))
theorem zP {W:World} {g g' i:Nat} {x y:Int} {A B:Option Addr} {k c k' c' :Nat} {s t:Bool} {v:Value} (hne:g≠g') (h:W.cell? ⟨g,i,none⟩=some v):(World.rat W g' x A k c s y B k' c' t).cell? ⟨g,i,none⟩=some v:=by
 rw [<- h]
 simp only [World.rat]
 rw [World.cell?_setCell_other,World.cell?_setCell_other,World.cell?_setCell_other,World.cell?_setCell_other,World.cell?_setCell_other,World.cell?_setCell_other]
 all_goals (intro e;injection e with e;exact hne e.symm)
theorem ZR {W:World} {g' n:Nat} {x y:Int} {A B:Option Addr} {k c k' c' :Nat} {s t:Bool} (h:n<W.heap.size):n<(World.rat W g' x A k c s y B k' c' t).heap.size:=by
 simp only [World.rat,World.setCell,Array.size_modify]
 exact h
def Xw (w:World) (g:Nat):Prop:=∃ x A k c s y B k' c' t,Blk w g 93 #[.int .i64 x,.slice A k c,.bool s,.int .i64 y,.slice B k' c',.bool t]
theorem YG {w w' :World} {g:Nat} (hb:Below w.heap.size w w') (h:Hid (Xw w g)):Hid (Xw w' g):=by
 obtain ⟨x,A,k,c,s,y,B,k',c',t,h⟩:=h.out
 exact ⟨x,A,k,c,s,y,B,k',c',t,h.below hb h.lt⟩
theorem Y3 {w:World} {g:Nat} {x y:Int} {A B:Option Addr} {k c k' c' :Nat} {s t:Bool} (h:Hid (Xw w g)):Hid (Xw (World.rat w g x A k c s y B k' c' t) g):=by
 obtain ⟨x,A,k,c,s,y,B,k',c',t,h⟩:=h.out
 exact ⟨_,_,_,_,_,_,_,_,_,_,yu h⟩
theorem Z3 {w0 w:World} {g:Nat} {x y:Int} {A B:Option Addr} {k c k' c' :Nat} {s t:Bool} (hg:w0.heap.size<=g) (h:Hid (Below w0.heap.size w0 w)):Hid (Below w0.heap.size w0 (World.rat w g x A k c s y B k' c' t)):=yp h.out hg
theorem zgs (va vb:Value) (x y:Rat) (w:World) (ha:yC w va x) (hb:yC w vb y) (hx:ZW 8388608 x) (hy:ZW 8388608 y):
 Calls Tryz.prog 93 #[va,vb] w (zds w (x*y)):=by
 obtain ⟨x1,A1,k1,c1,s1,y1,B1,k1x,c1x,t1,rfl,ha1,ha2⟩:=ha
 obtain ⟨x2,A2,k2,c2,s2,y2,B2,k2x,c2x,t2,rfl,hb1,hb2⟩:=hb
 obtain ⟨hx1,hx2⟩:=hx
 obtain ⟨hy1,hy2⟩:=hy
 have HX1:=ze (Nat.le_trans hx1 (show 8388608<=67108864 by omega))
 have HX2:=ze (Nat.le_trans hx2 (show 8388608<=67108864 by omega))
 have HY1:=ze (Nat.le_trans hy1 (show 8388608<=67108864 by omega))
 have HY2:=ze (Nat.le_trans hy2 (show 8388608<=67108864 by omega))
 have HL1:=ze (Nat.le_trans (Z6 hx1 hy1) (show 8388608+8388608<=33554432 by omega))
 have HL2:=ze (Nat.le_trans (Z6 hx2 hy2) (show 8388608+8388608<=33554432 by omega))
 have HNE:=ze (Int.mul_ne_zero (show (x.den:Int)≠0 by have:=x.den_nz;omega) (show (y.den:Int)≠0 by have:=y.den_nz;omega))
 rw [<- zpu]
 clear hx1 hx2 hy1 hy2
 have HAN:=ze ha1
 have HAD:=ze ha2
 have HBN:=ze hb1
 have HBD:=ze hb2
 clear ha1 ha2 hb1 hb2
 have HRES:Hid (Xw ((((w.alloc (.cells #[.int .i64 x1,.slice A1 k1 c1,.bool s1,.int .i64 y1,.slice B1 k1x c1x,.bool t1] 93)).alloc (.cells #[.int .i64 x2,.slice A2 k2 c2,.bool s2,.int .i64 y2,.slice B2 k2x c2x,.bool t2] 93)).alloc (.cells #[.int .i64 0,.slice none 0 0,.bool false,.int .i64 0,.slice none 0 0,.bool false] 93)).drew) (w.heap.size+1+1)):=by
  have h:=(Blk.new ((w.alloc (.cells #[.int .i64 x1,.slice A1 k1 c1,.bool s1,.int .i64 y1,.slice B1 k1x c1x,.bool t1] 93)).alloc (.cells #[.int .i64 x2,.slice A2 k2 c2,.bool s2,.int .i64 y2,.slice B2 k2x c2x,.bool t2] 93)) 93 #[.int .i64 0,.slice none 0 0,.bool false,.int .i64 0,.slice none 0 0,.bool false]).drew
  simp only [World.size_alloc] at h
  exact ⟨_,_,_,_,_,_,_,_,_,_,h⟩
 have HWX:Hid (Below w.heap.size w ((((w.alloc (.cells #[.int .i64 x1,.slice A1 k1 c1,.bool s1,.int .i64 y1,.slice B1 k1x c1x,.bool t1] 93)).alloc (.cells #[.int .i64 x2,.slice A2 k2 c2,.bool s2,.int .i64 y2,.slice B2 k2x c2x,.bool t2] 93)).alloc (.cells #[.int .i64 0,.slice none 0 0,.bool false,.int .i64 0,.slice none 0 0,.bool false] 93)).drew)):=ze (zl (ext (ext (zf w (.cells #[.int .i64 x1,.slice A1 k1 c1,.bool s1,.int .i64 y1,.slice B1 k1x c1x,.bool t1] 93)) (zf _ (.cells #[.int .i64 x2,.slice A2 k2 c2,.bool s2,.int .i64 y2,.slice B2 k2x c2x,.bool t2] 93))) (zf _ (.cells #[.int .i64 0,.slice none 0 0,.bool false,.int .i64 0,.slice none 0 0,.bool false] 93))) 1)
 go_enter Tryz.func93,Tryz.ntmps93
 go_wp2_with fail
 go_region_held3 (fun w' =>w'.cell? ⟨w.heap.size,0,none⟩=some (.int .i64 x1)/\w'.cell? ⟨w.heap.size,1,none⟩=some (.slice A1 k1 c1)/\w'.cell? ⟨w.heap.size,2,none⟩=some (.bool s1)/\w'.cell? ⟨w.heap.size,3,none⟩=some (.int .i64 y1)/\w'.cell? ⟨w.heap.size,4,none⟩=some (.slice B1 k1x c1x)/\w'.cell? ⟨w.heap.size,5,none⟩=some (.bool t1)/\w'.cell? ⟨w.heap.size+1,0,none⟩=some (.int .i64 x2)/\w'.cell? ⟨w.heap.size+1,1,none⟩=some (.slice A2 k2 c2)/\w'.cell? ⟨w.heap.size+1,2,none⟩=some (.bool s2)/\w'.cell? ⟨w.heap.size+1,3,none⟩=some (.int .i64 y2)/\w'.cell? ⟨w.heap.size+1,4,none⟩=some (.slice B2 k2x c2x)/\w'.cell? ⟨w.heap.size+1,5,none⟩=some (.bool t2)/\w.heap.size<w'.heap.size/\w.heap.size+1<w'.heap.size/\Hid (Xw w' (w.heap.size+1+1))/\Hid (Below w.heap.size w w'))
  (first
    | with_reducible exact ⟨by go_keep,by go_keep,by go_keep,by go_keep,by go_keep,by go_keep,by go_keep,by go_keep,by go_keep,by go_keep,by go_keep,by go_keep,by first | (simp;done) | (simp;omega),by first | (simp;done) | (simp;omega),HRES,HWX⟩
    | (go_split_ands;with_reducible exact ⟨zP (by omega) ‹_›,zP (by omega) ‹_›,zP (by omega) ‹_›,zP (by omega) ‹_›,zP (by omega) ‹_›,zP (by omega) ‹_›,zP (by omega) ‹_›,zP (by omega) ‹_›,zP (by omega) ‹_›,zP (by omega) ‹_›,zP (by omega) ‹_›,zP (by omega) ‹_›,ZR ‹_›,ZR ‹_›,Y3 ‹_›,Z3 (by omega) ‹_›⟩)
    | (go_split_ands;with_reducible exact ⟨zj ‹_› ‹_› ‹_›,zj ‹_› ‹_› ‹_›,zj ‹_› ‹_› ‹_›,zj ‹_› ‹_› ‹_›,zj ‹_› ‹_› ‹_›,zj ‹_› ‹_› ‹_›,zj ‹_› ‹_› ‹_›,zj ‹_› ‹_› ‹_›,zj ‹_› ‹_› ‹_›,zj ‹_› ‹_› ‹_›,zj ‹_› ‹_› ‹_›,zj ‹_› ‹_› ‹_›,zE ‹_› ‹_›,zE ‹_› ‹_›,YG ‹_› ‹_›,zt ‹_› ‹_›⟩)
    | go_keep)
  (first
    | (go_at_call_of 130 (Value.agg #[.int .i64 x1,.slice A1 k1 c1,.bool s1]);refine (x7 _ _ x.num y.num _ (HAN.out.below (zI (by go_split_ands;assumption))) (HBN.out.below (zI (by go_split_ands;assumption))) HX1.out HY1.out).mono ?_;rintro e w1 ⟨v1,rfl,hv1,hb1⟩;have HM1:=ze hv1;clear hv1;try replace HM2:=ze (HM2.out.below hb1))
    | (go_at_call_of 130 (Value.agg #[.int .i64 y1,.slice B1 k1x c1x,.bool t1]);refine (x7 _ _ x.den y.den _ (HAD.out.below (zI (by go_split_ands;assumption))) (HBD.out.below (zI (by go_split_ands;assumption))) HX2.out HY2.out).mono ?_;rintro e w2 ⟨v2,rfl,hv2,hb2⟩;have HM2:=ze hv2;clear hv2;try replace HM1:=ze (HM1.out.below hb2))
    | (go_at_call 128;refine (ZZ _ _ (x.num*y.num) ((x.den:Int)*y.den) _ HM1.out HM2.out HNE.out HL1.out HL2.out).mono ?_;rintro e wo ⟨vo,rfl,⟨x5,A5,k5,c5,n5,x6,A6,k6,c6,n6,rfl,hq1,hq2⟩,hbo⟩;obtain ⟨xr,Ar,kr,cr,sr,yr,Br,krx,crx,tr,kR⟩:=(YG (g:=w.heap.size+1+1) hbo (by go_split_ands;assumption)).out;have r0:=kR.cell 0;have r1:=kR.cell 1;have r2:=kR.cell 2;have r3:=kR.cell 3;have r4:=kR.cell 4;have r5:=kR.cell 5;have f0:=kR.frozen 0;have f1:=kR.frozen 1;have f2:=kR.frozen 2;have f3:=kR.frozen 3;have f4:=kR.frozen 4;have f5:=kR.frozen 5;simp at r0 r1 r2 r3 r4 r5;have HQ1:=ze hq1;have HQ2:=ze hq2;have HKR:=ze kR;clear hq1 hq2 kR;try replace HM1:=ze (HM1.out.below hbo);try replace HM2:=ze (HM2.out.below hbo)))
 all_goals
  go_split_ands
  have kR2:=yu (x:=x5) (A:=A5) (k:=k5) (c:=c5) (s:=n5) (y:=x6) (B:=A6) (k' :=k6) (c' :=c6) (t:=n6) HKR.out
  have hR1:=yI (x:=x5) (A:=A5) (k:=k5) (c:=c5) (s:=n5) (y:=x6) (B:=A6) (k' :=k6) (c' :=c6) (t:=n6) HQ1.out HKR.out
  have hR2:=yI (x:=x5) (A:=A5) (k:=k5) (c:=c5) (s:=n5) (y:=x6) (B:=A6) (k' :=k6) (c' :=c6) (t:=n6) HQ2.out HKR.out
  have hRW:=zI (by assumption:Hid (Below w.heap.size w (World.rat wo (w.heap.size+1+1) x5 A5 k5 c5 n5 x6 A6 k6 c6 n6)))
  have e0:=kR2.cell 0
  have e1:=kR2.cell 1
  have e2:=kR2.cell 2
  have e3:=kR2.cell 3
  have e4:=kR2.cell 4
  have e5:=kR2.cell 5
  simp only [World.rat] at e0 e1 e2 e3 e4 e5
  simp at e0 e1 e2 e3 e4 e5
  go_wp2
  refine bodyPost_ret (v:=.agg #[.int .i64 x5,.slice A5 k5 c5,.bool n5,.int .i64 x6,.slice A6 k6 c6,.bool n6]) (by simp [results,Tryz.results93,go_sem,e0,e1,e2,e3,e4,e5]) rfl ?_
  exact ⟨_,rfl,⟨_,_,_,_,_,_,_,_,_,_,rfl,hR1,hR2⟩,hRW⟩
theorem Xz (va vb:Value) (x y:Rat) (w:World) (ha:yC w va x) (hb:yC w vb y) (hx:ZW 8388608 x) (hy:ZW 8388608 y):
 Calls Tryz.prog 77 #[va,vb] w (zds w (x+y)):=by
 obtain ⟨x1,A1,k1,c1,s1,y1,B1,k1x,c1x,t1,rfl,ha1,ha2⟩:=ha
 obtain ⟨x2,A2,k2,c2,s2,y2,B2,k2x,c2x,t2,rfl,hb1,hb2⟩:=hb
 obtain ⟨hx1,hx2⟩:=hx
 obtain ⟨hy1,hy2⟩:=hy
 have HX1:=ze (Nat.le_trans hx1 (show 8388608<=67108864 by omega))
 have HX2:=ze (Nat.le_trans hx2 (show 8388608<=67108864 by omega))
 have HY1:=ze (Nat.le_trans hy1 (show 8388608<=67108864 by omega))
 have HY2:=ze (Nat.le_trans hy2 (show 8388608<=67108864 by omega))
 have hl4:=Z6 hx1 hy2
 have hl5:=Z6 hy1 hx2
 have HL1:=ze (Nat.le_trans (zia hl4 hl5) (show 8388608+8388608+1<=33554432 by omega))
 have HL2:=ze (Nat.le_trans (Z6 hx2 hy2) (show 8388608+8388608<=33554432 by omega))
 have HL4:=ze (Nat.le_trans hl4 (show 8388608+8388608<=67108864 by omega))
 have HL5:=ze (Nat.le_trans hl5 (show 8388608+8388608<=67108864 by omega))
 have HNE:=ze (Int.mul_ne_zero (show (x.den:Int)≠0 by have:=x.den_nz;omega) (show (y.den:Int)≠0 by have:=y.den_nz;omega))
 rw [<- zpn]
 clear hx1 hx2 hy1 hy2 hl4 hl5
 have HAN:=ze ha1
 have HAD:=ze ha2
 have HBN:=ze hb1
 have HBD:=ze hb2
 clear ha1 ha2 hb1 hb2
 have HRES:Hid (Xw ((((w.alloc (.cells #[.int .i64 x1,.slice A1 k1 c1,.bool s1,.int .i64 y1,.slice B1 k1x c1x,.bool t1] 93)).alloc (.cells #[.int .i64 x2,.slice A2 k2 c2,.bool s2,.int .i64 y2,.slice B2 k2x c2x,.bool t2] 93)).alloc (.cells #[.int .i64 0,.slice none 0 0,.bool false,.int .i64 0,.slice none 0 0,.bool false] 93)).drew) (w.heap.size+1+1)):=by
  have h:=(Blk.new ((w.alloc (.cells #[.int .i64 x1,.slice A1 k1 c1,.bool s1,.int .i64 y1,.slice B1 k1x c1x,.bool t1] 93)).alloc (.cells #[.int .i64 x2,.slice A2 k2 c2,.bool s2,.int .i64 y2,.slice B2 k2x c2x,.bool t2] 93)) 93 #[.int .i64 0,.slice none 0 0,.bool false,.int .i64 0,.slice none 0 0,.bool false]).drew
  simp only [World.size_alloc] at h
  exact ⟨_,_,_,_,_,_,_,_,_,_,h⟩
 have HWX:Hid (Below w.heap.size w ((((w.alloc (.cells #[.int .i64 x1,.slice A1 k1 c1,.bool s1,.int .i64 y1,.slice B1 k1x c1x,.bool t1] 93)).alloc (.cells #[.int .i64 x2,.slice A2 k2 c2,.bool s2,.int .i64 y2,.slice B2 k2x c2x,.bool t2] 93)).alloc (.cells #[.int .i64 0,.slice none 0 0,.bool false,.int .i64 0,.slice none 0 0,.bool false] 93)).drew)):=ze (zl (ext (ext (zf w (.cells #[.int .i64 x1,.slice A1 k1 c1,.bool s1,.int .i64 y1,.slice B1 k1x c1x,.bool t1] 93)) (zf _ (.cells #[.int .i64 x2,.slice A2 k2 c2,.bool s2,.int .i64 y2,.slice B2 k2x c2x,.bool t2] 93))) (zf _ (.cells #[.int .i64 0,.slice none 0 0,.bool false,.int .i64 0,.slice none 0 0,.bool false] 93))) 1)
 go_enter Tryz.func77,Tryz.ntmps77
 go_wp2_with fail
 go_region_held3 (fun w' =>w'.cell? ⟨w.heap.size,0,none⟩=some (.int .i64 x1)/\w'.cell? ⟨w.heap.size,1,none⟩=some (.slice A1 k1 c1)/\w'.cell? ⟨w.heap.size,2,none⟩=some (.bool s1)/\w'.cell? ⟨w.heap.size,3,none⟩=some (.int .i64 y1)/\w'.cell? ⟨w.heap.size,4,none⟩=some (.slice B1 k1x c1x)/\w'.cell? ⟨w.heap.size,5,none⟩=some (.bool t1)/\w'.cell? ⟨w.heap.size+1,0,none⟩=some (.int .i64 x2)/\w'.cell? ⟨w.heap.size+1,1,none⟩=some (.slice A2 k2 c2)/\w'.cell? ⟨w.heap.size+1,2,none⟩=some (.bool s2)/\w'.cell? ⟨w.heap.size+1,3,none⟩=some (.int .i64 y2)/\w'.cell? ⟨w.heap.size+1,4,none⟩=some (.slice B2 k2x c2x)/\w'.cell? ⟨w.heap.size+1,5,none⟩=some (.bool t2)/\w.heap.size<w'.heap.size/\w.heap.size+1<w'.heap.size/\Hid (Xw w' (w.heap.size+1+1))/\Hid (Below w.heap.size w w'))
  (first
    | with_reducible exact ⟨by go_keep,by go_keep,by go_keep,by go_keep,by go_keep,by go_keep,by go_keep,by go_keep,by go_keep,by go_keep,by go_keep,by go_keep,by first | (simp;done) | (simp;omega),by first | (simp;done) | (simp;omega),HRES,HWX⟩
    | (go_split_ands;with_reducible exact ⟨zP (by omega) ‹_›,zP (by omega) ‹_›,zP (by omega) ‹_›,zP (by omega) ‹_›,zP (by omega) ‹_›,zP (by omega) ‹_›,zP (by omega) ‹_›,zP (by omega) ‹_›,zP (by omega) ‹_›,zP (by omega) ‹_›,zP (by omega) ‹_›,zP (by omega) ‹_›,ZR ‹_›,ZR ‹_›,Y3 ‹_›,Z3 (by omega) ‹_›⟩)
    | (go_split_ands;with_reducible exact ⟨zj ‹_› ‹_› ‹_›,zj ‹_› ‹_› ‹_›,zj ‹_› ‹_› ‹_›,zj ‹_› ‹_› ‹_›,zj ‹_› ‹_› ‹_›,zj ‹_› ‹_› ‹_›,zj ‹_› ‹_› ‹_›,zj ‹_› ‹_› ‹_›,zj ‹_› ‹_› ‹_›,zj ‹_› ‹_› ‹_›,zj ‹_› ‹_› ‹_›,zj ‹_› ‹_› ‹_›,zE ‹_› ‹_›,zE ‹_› ‹_›,YG ‹_› ‹_›,zt ‹_› ‹_›⟩)
    | go_keep)
  (first
    | (go_at_call_of 130 (Value.agg #[.int .i64 x1,.slice A1 k1 c1,.bool s1]);refine (x7 _ _ x.num y.den _ (HAN.out.below (zI (by go_split_ands;assumption))) (HBD.out.below (zI (by go_split_ands;assumption))) HX1.out HY2.out).mono ?_;rintro e w1 ⟨v1,rfl,hv1,hb1⟩;have HM1:=ze hv1;clear hv1;try replace HM2:=ze (HM2.out.below hb1);try replace HM3:=ze (HM3.out.below hb1);try replace HM4:=ze (HM4.out.below hb1))
    | (go_at_call_of 130 (Value.agg #[.int .i64 x2,.slice A2 k2 c2,.bool s2]);refine (x7 _ _ y.num x.den _ (HBN.out.below (zI (by go_split_ands;assumption))) (HAD.out.below (zI (by go_split_ands;assumption))) HY1.out HX2.out).mono ?_;rintro e w2 ⟨v2,rfl,hv2,hb2⟩;have HM2:=ze hv2;clear hv2;try replace HM1:=ze (HM1.out.below hb2);try replace HM3:=ze (HM3.out.below hb2);try replace HM4:=ze (HM4.out.below hb2))
    | (go_at_call_of 130 (Value.agg #[.int .i64 y1,.slice B1 k1x c1x,.bool t1]);refine (x7 _ _ x.den y.den _ (HAD.out.below (zI (by go_split_ands;assumption))) (HBD.out.below (zI (by go_split_ands;assumption))) HX2.out HY2.out).mono ?_;rintro e w3 ⟨v3,rfl,hv3,hb3⟩;have HM3:=ze hv3;clear hv3;try replace HM1:=ze (HM1.out.below hb3);try replace HM2:=ze (HM2.out.below hb3);try replace HM4:=ze (HM4.out.below hb3))
    | (go_at_call 133;refine (zc9 _ _ (x.num*y.den) (y.num*x.den) _ HM1.out HM2.out HL4.out HL5.out).mono ?_;rintro e w4 ⟨v4,rfl,hv4,hb4⟩;have HM4:=ze hv4;clear hv4;try replace HM1:=ze (HM1.out.below hb4);try replace HM2:=ze (HM2.out.below hb4);try replace HM3:=ze (HM3.out.below hb4))
    | (go_at_call 128;refine (ZZ _ _ (x.num*y.den+y.num*x.den) ((x.den:Int)*y.den) _ HM4.out HM3.out HNE.out HL1.out HL2.out).mono ?_;rintro e wo ⟨vo,rfl,⟨x5,A5,k5,c5,n5,x6,A6,k6,c6,n6,rfl,hq1,hq2⟩,hbo⟩;obtain ⟨xr,Ar,kr,cr,sr,yr,Br,krx,crx,tr,kR⟩:=(YG (g:=w.heap.size+1+1) hbo (by go_split_ands;assumption)).out;have r0:=kR.cell 0;have r1:=kR.cell 1;have r2:=kR.cell 2;have r3:=kR.cell 3;have r4:=kR.cell 4;have r5:=kR.cell 5;have f0:=kR.frozen 0;have f1:=kR.frozen 1;have f2:=kR.frozen 2;have f3:=kR.frozen 3;have f4:=kR.frozen 4;have f5:=kR.frozen 5;simp at r0 r1 r2 r3 r4 r5;have HQ1:=ze hq1;have HQ2:=ze hq2;have HKR:=ze kR;clear hq1 hq2 kR;try replace HM1:=ze (HM1.out.below hbo);try replace HM2:=ze (HM2.out.below hbo);try replace HM3:=ze (HM3.out.below hbo);try replace HM4:=ze (HM4.out.below hbo)))
 all_goals
  go_split_ands
  have kR2:=yu (x:=x5) (A:=A5) (k:=k5) (c:=c5) (s:=n5) (y:=x6) (B:=A6) (k' :=k6) (c' :=c6) (t:=n6) HKR.out
  have hR1:=yI (x:=x5) (A:=A5) (k:=k5) (c:=c5) (s:=n5) (y:=x6) (B:=A6) (k' :=k6) (c' :=c6) (t:=n6) HQ1.out HKR.out
  have hR2:=yI (x:=x5) (A:=A5) (k:=k5) (c:=c5) (s:=n5) (y:=x6) (B:=A6) (k' :=k6) (c' :=c6) (t:=n6) HQ2.out HKR.out
  have hRW:=zI (by assumption:Hid (Below w.heap.size w (World.rat wo (w.heap.size+1+1) x5 A5 k5 c5 n5 x6 A6 k6 c6 n6)))
  have e0:=kR2.cell 0
  have e1:=kR2.cell 1
  have e2:=kR2.cell 2
  have e3:=kR2.cell 3
  have e4:=kR2.cell 4
  have e5:=kR2.cell 5
  simp only [World.rat] at e0 e1 e2 e3 e4 e5
  simp at e0 e1 e2 e3 e4 e5
  go_wp2
  refine bodyPost_ret (v:=.agg #[.int .i64 x5,.slice A5 k5 c5,.bool n5,.int .i64 x6,.slice A6 k6 c6,.bool n6]) (by simp [results,Tryz.results77,go_sem,e0,e1,e2,e3,e4,e5]) rfl ?_
  exact ⟨_,rfl,⟨_,_,_,_,_,_,_,_,_,_,rfl,hR1,hR2⟩,hRW⟩
def zgi (x y:Rat):Int:=if x<y then -1 else if y<x then 1 else 0
theorem zla (x y:Rat):zK (x.num*y.den) (y.num*x.den)=zgi x y:=by
 unfold zK zgi
 have h1:=Rat.lt_iff x y
 have h2:=Rat.lt_iff y x
 by_cases a:x<y
 . rw [if_pos (h1.1 a),if_pos a]
 . rw [if_neg (fun h=>a (h1.2 h)),if_neg a]
   by_cases b:y<x
   . rw [if_pos (h2.1 b),if_pos b]
   . rw [if_neg (fun h=>b (h2.2 h)),if_neg b]
theorem zqh (x:Rat):zK x.num 0=zgi x 0:=by
 have:=zla x 0
 simp at this
 rw [<- this]
theorem VE (va:Value) (x:Rat) (w:World) (ha:yC w va x):
 Calls Tryz.prog 53 #[va] w (Vc w (.int .i64 (zgi x 0))):=by
 obtain ⟨x1,A1,k1,c1,s1,y1,B1,k1x,c1x,t1,rfl,ha1,ha2⟩:=ha
 have HB:=ze (zf w (.cells #[.int .i64 x1,.slice A1 k1 c1,.bool s1,.int .i64 y1,.slice B1 k1x c1x,.bool t1] 93))
 have HA:=ze (ha1.below HB.out)
 rw [<- zqh]
 clear ha1 ha2
 go_enter Tryz.func53,Tryz.ntmps53
 go_wp2_with fail
 refine (Yr _ x.num _ HA.out).mono ?_
 rintro e w1 ⟨rfl,hb1⟩
 go_wp2
 go_ret
 exact ⟨rfl,ext HB.out hb1⟩
theorem zgz (va vb:Value) (x y:Rat) (w:World) (ha:yC w va x) (hb:yC w vb y) (hx:ZW 8388608 x) (hy:ZW 8388608 y):
 Calls Tryz.prog 68 #[va,vb] w (Vc w (.int .i64 (zgi x y))):=by
 obtain ⟨x1,A1,k1,c1,s1,y1,B1,k1x,c1x,t1,rfl,ha1,ha2⟩:=ha
 obtain ⟨x2,A2,k2,c2,s2,y2,B2,k2x,c2x,t2,rfl,hb1,hb2⟩:=hb
 obtain ⟨hx1,hx2⟩:=hx
 obtain ⟨hy1,hy2⟩:=hy
 have HX1:=ze (Nat.le_trans hx1 (show 8388608<=67108864 by omega))
 have HX2:=ze (Nat.le_trans hx2 (show 8388608<=67108864 by omega))
 have HY1:=ze (Nat.le_trans hy1 (show 8388608<=67108864 by omega))
 have HY2:=ze (Nat.le_trans hy2 (show 8388608<=67108864 by omega))
 have HL1:=ze (Nat.le_trans (Z6 hx1 hy2) (show 8388608+8388608<=67108864 by omega))
 have HL2:=ze (Nat.le_trans (Z6 hy1 hx2) (show 8388608+8388608<=67108864 by omega))
 rw [<- zla]
 clear hx1 hx2 hy1 hy2
 have HAN:=ze ha1
 have HAD:=ze ha2
 have HBN:=ze hb1
 have HBD:=ze hb2
 clear ha1 ha2 hb1 hb2
 have HWX:Hid (Below w.heap.size w (((w.alloc (.cells #[.int .i64 x1,.slice A1 k1 c1,.bool s1,.int .i64 y1,.slice B1 k1x c1x,.bool t1] 93)).alloc (.cells #[.int .i64 x2,.slice A2 k2 c2,.bool s2,.int .i64 y2,.slice B2 k2x c2x,.bool t2] 93)).drew)):=ze (zl (ext (zf w (.cells #[.int .i64 x1,.slice A1 k1 c1,.bool s1,.int .i64 y1,.slice B1 k1x c1x,.bool t1] 93)) (zf _ (.cells #[.int .i64 x2,.slice A2 k2 c2,.bool s2,.int .i64 y2,.slice B2 k2x c2x,.bool t2] 93))) 1)
 go_enter Tryz.func68,Tryz.ntmps68
 go_wp2_with fail
 go_region_held3 (fun w' =>w'.cell? ⟨w.heap.size,0,none⟩=some (.int .i64 x1)/\w'.cell? ⟨w.heap.size,1,none⟩=some (.slice A1 k1 c1)/\w'.cell? ⟨w.heap.size,2,none⟩=some (.bool s1)/\w'.cell? ⟨w.heap.size,3,none⟩=some (.int .i64 y1)/\w'.cell? ⟨w.heap.size,4,none⟩=some (.slice B1 k1x c1x)/\w'.cell? ⟨w.heap.size,5,none⟩=some (.bool t1)/\w'.cell? ⟨w.heap.size+1,0,none⟩=some (.int .i64 x2)/\w'.cell? ⟨w.heap.size+1,1,none⟩=some (.slice A2 k2 c2)/\w'.cell? ⟨w.heap.size+1,2,none⟩=some (.bool s2)/\w'.cell? ⟨w.heap.size+1,3,none⟩=some (.int .i64 y2)/\w'.cell? ⟨w.heap.size+1,4,none⟩=some (.slice B2 k2x c2x)/\w'.cell? ⟨w.heap.size+1,5,none⟩=some (.bool t2)/\w.heap.size<w'.heap.size/\w.heap.size+1<w'.heap.size/\Hid (Below w.heap.size w w'))
  (first
    | with_reducible exact ⟨by go_keep,by go_keep,by go_keep,by go_keep,by go_keep,by go_keep,by go_keep,by go_keep,by go_keep,by go_keep,by go_keep,by go_keep,by first | (simp;done) | (simp;omega),by first | (simp;done) | (simp;omega),HWX⟩
    | (go_split_ands;with_reducible exact ⟨zj ‹_› ‹_› ‹_›,zj ‹_› ‹_› ‹_›,zj ‹_› ‹_› ‹_›,zj ‹_› ‹_› ‹_›,zj ‹_› ‹_› ‹_›,zj ‹_› ‹_› ‹_›,zj ‹_› ‹_› ‹_›,zj ‹_› ‹_› ‹_›,zj ‹_› ‹_› ‹_›,zj ‹_› ‹_› ‹_›,zj ‹_› ‹_› ‹_›,zj ‹_› ‹_› ‹_›,zE ‹_› ‹_›,zE ‹_› ‹_›,zt ‹_› ‹_›⟩)
    | go_keep)
  (first
    | (go_at_call_of 130 (Value.agg #[.int .i64 x1,.slice A1 k1 c1,.bool s1]);refine (x7 _ _ x.num y.den _ (HAN.out.below (zI (by go_split_ands;assumption))) (HBD.out.below (zI (by go_split_ands;assumption))) HX1.out HY2.out).mono ?_;rintro e w1 ⟨v1,rfl,hv1,hb1⟩;have HM1:=ze hv1;clear hv1;try replace HM2:=ze (HM2.out.below hb1))
    | (go_at_call_of 130 (Value.agg #[.int .i64 x2,.slice A2 k2 c2,.bool s2]);refine (x7 _ _ y.num x.den _ (HBN.out.below (zI (by go_split_ands;assumption))) (HAD.out.below (zI (by go_split_ands;assumption))) HY1.out HX2.out).mono ?_;rintro e w2 ⟨v2,rfl,hv2,hb2⟩;have HM2:=ze hv2;clear hv2;try replace HM1:=ze (HM1.out.below hb2))
    | (go_at_call 129;refine (zco _ _ (x.num*y.den) (y.num*x.den) _ HM1.out HM2.out HL1.out HL2.out).mono ?_;rintro e wc ⟨rfl,hbc⟩;try replace HM1:=ze (HM1.out.below hbo);try replace HM2:=ze (HM2.out.below hbo)))
 all_goals
  go_split_ands
  have hRW:=zI (by assumption:Hid (Below w.heap.size w wc))
  go_wp2
  go_ret
  exact ⟨rfl,hRW⟩
end Go.Proofs.YtkmcmmcencdcpaaGreatDoor
