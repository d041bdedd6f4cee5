/- Parts of the proof. -/
import Derived.Deep.DrawnRows
import Derived.Test.YtofmkndhocinmaaGreatDoorMs12
set_option linter.all false
set_option maxRecDepth 100000
set_option maxHeartbeats 32000000
namespace Go.Proofs.YtofmkndhocinmaaGreatDoor
open Proofs.Tryz Go.RowKit Go.Deep
attribute [local go_sem ↓] Go.wp_at_zero Go.wp_at_succ
theorem Zt (q:Rat):q=Rat.divInt q.num q.den:=(Rat.num_divInt_den q).symm
theorem zj7 (q:Rat):((q.den:Int):Rat)≠0:=by
 have:=q.den_nz
 exact_mod_cast this
theorem zsi (x y:Rat):Rat.divInt (x.num*y.den+y.num*x.den) ((x.den:Int)*y.den)=x+y:=by
 have b:=zj7 x
 have e:=zj7 y
 conv=>rhs;rw [Zt x,Zt y]
 simp only [Rat.divInt_eq_div]
 push_cast
 push_cast at b e
 grind
theorem zru (x y:Rat):Rat.divInt (x.num*y.num) ((x.den:Int)*y.den)=x*y:=by
 have b:=zj7 x
 have e:=zj7 y
 conv=>rhs;rw [Zt x,Zt y]
 simp only [Rat.divInt_eq_div]
 push_cast
 push_cast at b e
 grind
theorem zvf (q:Rat) (h:q≠0):((q.num:Int):Rat)≠0:=by
 intro e
 apply h
 have:q.num=0:=by exact_mod_cast e
 exact Rat.num_eq_zero.1 this
theorem zma (x y:Rat) (h:y≠0):Rat.divInt (x.num*y.den) ((x.den:Int)*y.num)=x / y:=by
 have b:=zj7 x
 have e:=zj7 y
 have j:=zvf y h
 conv=>rhs;rw [Zt x,Zt y]
 simp only [Rat.divInt_eq_div]
 push_cast
 push_cast at b e
 grind
def xS (M:Nat) (q:Rat):Prop:=len 4294967296 q.num.natAbs<=M/\len 4294967296 (q.den:Int).natAbs<=M
theorem Zc {a b:Int} {M K:Nat} (h1:len 4294967296 a.natAbs<=M) (h2:len 4294967296 b.natAbs<=K):len 4294967296 (a*b).natAbs<=M+K:=by
 rw [Int.natAbs_mul]
 exact uC (zm8 (by omega) _ _) (by omega)
theorem zje {a b:Int} {M:Nat} (h1:len 4294967296 a.natAbs<=M) (h2:len 4294967296 b.natAbs<=M):len 4294967296 (a+b).natAbs<=M+1:=by
 have e:(a+b).natAbs<=a.natAbs+b.natAbs:=Int.natAbs_add_le a b
 refine uC (Yp (by omega) e) (uC (zsb (by omega) _ _) (by omega))
theorem zv {W:World} {g g' i:Nat} {x y:Int} {A B:Option Addr} {k c k' c' :Nat} {s t:Bool} {v:Value} (hne:g≠g') (h:W.cell? ⟨g,i,none⟩=some v):(World.rat W g' x A k c s y B k' c' t).cell? ⟨g,i,none⟩=some v:=by
 rw [<- h]
 simp only [World.rat]
 rw [World.cell?_setCell_other,World.cell?_setCell_other,World.cell?_setCell_other,World.cell?_setCell_other,World.cell?_setCell_other,World.cell?_setCell_other]
 all_goals (intro e;injection e with e;exact hne e.symm)
theorem vI {W:World} {g' n:Nat} {x y:Int} {A B:Option Addr} {k c k' c' :Nat} {s t:Bool} (h:n<W.heap.size):n<(World.rat W g' x A k c s y B k' c' t).heap.size:=by
 simp only [World.rat,World.setCell,Array.size_modify]
 exact h
def Yt (w:World) (g:Nat):Prop:=∃ x A k c s y B k' c' t,Blk w g 62 #[.int .i64 x,.slice A k c,.bool s,.int .i64 y,.slice B k' c',.bool t]
theorem Zm {w w' :World} {g:Nat} (hb:Below w.heap.size w w') (h:Hid (Yt w g)):Hid (Yt w' g):=by
 obtain ⟨x,A,k,c,s,y,B,k',c',t,h⟩:=h.out
 exact ⟨x,A,k,c,s,y,B,k',c',t,h.below hb h.lt⟩
theorem vR {w:World} {g:Nat} {x y:Int} {A B:Option Addr} {k c k' c' :Nat} {s t:Bool} (h:Hid (Yt w g)):Hid (Yt (World.rat w g x A k c s y B k' c' t) g):=by
 obtain ⟨x,A,k,c,s,y,B,k',c',t,h⟩:=h.out
 exact ⟨_,_,_,_,_,_,_,_,_,_,yf h⟩
theorem xU {w0 w:World} {g:Nat} {x y:Int} {A B:Option Addr} {k c k' c' :Nat} {s t:Bool} (hg:w0.heap.size<=g) (h:Hid (Below w0.heap.size w0 w)):Hid (Below w0.heap.size w0 (World.rat w g x A k c s y B k' c' t)):=yq h.out hg
theorem YN (va vb:Value) (x y:Rat) (w:World) (ha:zE w va x) (hb:zE w vb y) (hx:xS 8388608 x) (hy:xS 8388608 y):
 Calls prog 57 #[va,vb] w (VN w (x*y)):=by
 obtain ⟨z,j,k1,c1,s1,m,l,r,C,u,rfl,ai,an⟩:=ha
 obtain ⟨E,V,k2,c2,s2,Z,N,J,G,O,rfl,ab,aa⟩:=hb
 obtain ⟨ah,ac⟩:=hx
 obtain ⟨ad,af⟩:=hy
 have ax:=ze (uC ah (show 8388608<=67108864 by omega))
 have aE:=ze (uC ac (show 8388608<=67108864 by omega))
 have aw:=ze (uC ad (show 8388608<=67108864 by omega))
 have aD:=ze (uC af (show 8388608<=67108864 by omega))
 have au:=ze (uC (Zc ah ad) (show 8388608+8388608<=33554432 by omega))
 have az:=ze (uC (Zc ac af) (show 8388608+8388608<=33554432 by omega))
 have aB:=ze (Int.mul_ne_zero (show (x.den:Int)≠0 by have:=x.den_nz;omega) (show (y.den:Int)≠0 by have:=y.den_nz;omega))
 rw [<- zru]
 clear ah ac ad af
 obtain ⟨ar,aF,aA,aq⟩:=hz4 ai an ab aa
 clear ai an ab aa
 have ap:Hid (Yt ((((w.alloc (.cells #[.int .i64 z,.slice j k1 c1,.bool s1,.int .i64 m,.slice l r C,.bool u] 62)).alloc (.cells #[.int .i64 E,.slice V k2 c2,.bool s2,.int .i64 Z,.slice N J G,.bool O] 62)).alloc (.cells #[.int .i64 0,.slice none 0 0,.bool false,.int .i64 0,.slice none 0 0,.bool false] 62)).drew) (w.heap.size+1+1)):=by
  have h:=(Blk.new ((w.alloc (.cells #[.int .i64 z,.slice j k1 c1,.bool s1,.int .i64 m,.slice l r C,.bool u] 62)).alloc (.cells #[.int .i64 E,.slice V k2 c2,.bool s2,.int .i64 Z,.slice N J G,.bool O] 62)) 62 #[.int .i64 0,.slice none 0 0,.bool false,.int .i64 0,.slice none 0 0,.bool false]).drew
  simp only [World.size_alloc] at h
  exact ⟨_,_,_,_,_,_,_,_,_,_,h⟩
 have aC:Hid (Below w.heap.size w ((((w.alloc (.cells #[.int .i64 z,.slice j k1 c1,.bool s1,.int .i64 m,.slice l r C,.bool u] 62)).alloc (.cells #[.int .i64 E,.slice V k2 c2,.bool s2,.int .i64 Z,.slice N J G,.bool O] 62)).alloc (.cells #[.int .i64 0,.slice none 0 0,.bool false,.int .i64 0,.slice none 0 0,.bool false] 62)).drew)):=ze (zt (ext (ext (zf w (.cells #[.int .i64 z,.slice j k1 c1,.bool s1,.int .i64 m,.slice l r C,.bool u] 62)) (zf _ (.cells #[.int .i64 E,.slice V k2 c2,.bool s2,.int .i64 Z,.slice N J G,.bool O] 62))) (zf _ (.cells #[.int .i64 0,.slice none 0 0,.bool false,.int .i64 0,.slice none 0 0,.bool false] 62))) 1)
 go_in
 go_wp2_with fail
 go_region_held3 (fun w' =>w'.cell? ⟨w.heap.size,0,none⟩=some (.int .i64 z)/\w'.cell? ⟨w.heap.size,1,none⟩=some (.slice j k1 c1)/\w'.cell? ⟨w.heap.size,2,none⟩=some (.bool s1)/\w'.cell? ⟨w.heap.size,3,none⟩=some (.int .i64 m)/\w'.cell? ⟨w.heap.size,4,none⟩=some (.slice l r C)/\w'.cell? ⟨w.heap.size,5,none⟩=some (.bool u)/\w'.cell? ⟨w.heap.size+1,0,none⟩=some (.int .i64 E)/\w'.cell? ⟨w.heap.size+1,1,none⟩=some (.slice V k2 c2)/\w'.cell? ⟨w.heap.size+1,2,none⟩=some (.bool s2)/\w'.cell? ⟨w.heap.size+1,3,none⟩=some (.int .i64 Z)/\w'.cell? ⟨w.heap.size+1,4,none⟩=some (.slice N J G)/\w'.cell? ⟨w.heap.size+1,5,none⟩=some (.bool O)/\w.heap.size<w'.heap.size/\w.heap.size+1<w'.heap.size/\Hid (Yt w' (w.heap.size+1+1))/\Hid (Below w.heap.size w w'))
  (first
    | with_reducible exact ⟨by go_keep,by go_keep,by go_keep,by go_keep,by go_keep,by go_keep,by go_keep,by go_keep,by go_keep,by go_keep,by go_keep,by go_keep,by first | (simp;done) | (simp;omega),by first | (simp;done) | (simp;omega),ap,aC⟩
    | (go_split_ands;with_reducible exact ⟨zv (by omega) ‹_›,zv (by omega) ‹_›,zv (by omega) ‹_›,zv (by omega) ‹_›,zv (by omega) ‹_›,zv (by omega) ‹_›,zv (by omega) ‹_›,zv (by omega) ‹_›,zv (by omega) ‹_›,zv (by omega) ‹_›,zv (by omega) ‹_›,zv (by omega) ‹_›,vI ‹_›,vI ‹_›,vR ‹_›,xU (by omega) ‹_›⟩)
    | (go_split_ands;with_reducible exact ⟨zh ‹_› ‹_› ‹_›,zh ‹_› ‹_› ‹_›,zh ‹_› ‹_› ‹_›,zh ‹_› ‹_› ‹_›,zh ‹_› ‹_› ‹_›,zh ‹_› ‹_› ‹_›,zh ‹_› ‹_› ‹_›,zh ‹_› ‹_› ‹_›,zh ‹_› ‹_› ‹_›,zh ‹_› ‹_› ‹_›,zh ‹_› ‹_› ‹_›,zh ‹_› ‹_› ‹_›,zU ‹_› ‹_›,zU ‹_› ‹_›,Zm ‹_› ‹_›,zo ‹_› ‹_›⟩)
    | go_keep)
  (first
    | (go_at_call_of 66 (Value.agg #[.int .i64 z,.slice j k1 c1,.bool s1]);refine (xi _ _ x.num y.num _ (ar.o.below (zO (by go_split_ands;assumption))) (aA.o.below (zO (by go_split_ands;assumption))) ax.o aw.o).mono ?_;rintro e w1 ⟨v1,rfl,aj,ab⟩;have X:=ze aj;clear aj;try replace Q:=ze (Q.o.below ab))
    | (go_at_call_of 66 (Value.agg #[.int .i64 m,.slice l r C,.bool u]);refine (xi _ _ x.den y.den _ (aF.o.below (zO (by go_split_ands;assumption))) (aq.o.below (zO (by go_split_ands;assumption))) aE.o aD.o).mono ?_;rintro e w2 ⟨v2,rfl,al,aa⟩;have Q:=ze al;clear al;try replace X:=ze (X.o.below aa))
    | (go_at_call 64;refine (ZG _ _ (x.num*y.num) ((x.den:Int)*y.den) _ X.o Q.o aB.o au.o az.o).mono ?_;rintro e wo ⟨vo,rfl,⟨K,I,M,U,F,Y,R,T,L,S,rfl,am,ak⟩,ae⟩;obtain ⟨xr,Ar,kr,cr,sr,yr,Br,aJ,aI,tr,b⟩:=(Zm (g:=w.heap.size+1+1) ae (by go_split_ands;assumption)).out;have r0:=b.cell 0;have r1:=b.cell 1;have r2:=b.cell 2;have r3:=b.cell 3;have r4:=b.cell 4;have r5:=b.cell 5;have f0:=b.frozen 0;have f1:=b.frozen 1;have f2:=b.frozen 2;have f3:=b.frozen 3;have f4:=b.frozen 4;have f5:=b.frozen 5;simp at r0 r1 r2 r3 r4 r5;have ao:=ze am;have aG:=ze ak;have ag:=ze b;clear am ak b;try replace X:=ze (X.o.below ae);try replace Q:=ze (Q.o.below ae)))
 all_goals
  go_split_ands
  have D:=yf (x:=K) (A:=I) (k:=M) (c:=U) (s:=F) (y:=Y) (B:=R) (k' :=T) (c' :=L) (t:=S) ag.o
  have aH:=yk (x:=K) (A:=I) (k:=M) (c:=U) (s:=F) (y:=Y) (B:=R) (k' :=T) (c' :=L) (t:=S) ao.o ag.o
  have av:=yk (x:=K) (A:=I) (k:=M) (c:=U) (s:=F) (y:=Y) (B:=R) (k' :=T) (c' :=L) (t:=S) aG.o ag.o
  have ay:=zO (by assumption:Hid (Below w.heap.size w (World.rat wo (w.heap.size+1+1) K I M U F Y R T L S)))
  have e0:=D.cell 0;have e1:=D.cell 1;have e2:=D.cell 2;have e3:=D.cell 3;have e4:=D.cell 4;have e5:=D.cell 5
  simp only [World.rat] at e0 e1 e2 e3 e4 e5
  simp at e0 e1 e2 e3 e4 e5
  go_wp2
  refine bodyPost_ret (v:=.agg #[.int .i64 K,.slice I M U,.bool F,.int .i64 Y,.slice R T L,.bool S]) (by simp [results,results57,go_sem,e0,e1,e2,e3,e4,e5]) rfl ?_
  exact ⟨_,rfl,⟨_,_,_,_,_,_,_,_,_,_,rfl,aH,av⟩,ay⟩
theorem XH (va vb:Value) (x y:Rat) (w:World) (ha:zE w va x) (hb:zE w vb y) (hx:xS 8388608 x) (hy:xS 8388608 y) (hy0:y≠0):
 Calls prog 31 #[va,vb] w (VN w (x / y)):=by
 obtain ⟨z,j,k1,c1,s1,m,l,r,C,u,rfl,ai,an⟩:=ha
 obtain ⟨E,V,k2,c2,s2,Z,N,J,G,O,rfl,ab,aa⟩:=hb
 obtain ⟨ah,ac⟩:=hx
 obtain ⟨ad,af⟩:=hy
 have ax:=ze (uC ah (show 8388608<=67108864 by omega))
 have aE:=ze (uC ac (show 8388608<=67108864 by omega))
 have aw:=ze (uC ad (show 8388608<=67108864 by omega))
 have aD:=ze (uC af (show 8388608<=67108864 by omega))
 have au:=ze (uC (Zc ah af) (show 8388608+8388608<=33554432 by omega))
 have az:=ze (uC (Zc ac ad) (show 8388608+8388608<=33554432 by omega))
 have aB:=ze (Int.mul_ne_zero (show (x.den:Int)≠0 by have:=x.den_nz;omega) (show y.num≠0 from fun e=>hy0 (Rat.num_eq_zero.1 e)))
 rw [<- zma _ _ hy0]
 clear ah ac ad af hy0
 obtain ⟨ar,aF,aA,aq⟩:=hz4 ai an ab aa
 clear ai an ab aa
 have ap:Hid (Yt ((((w.alloc (.cells #[.int .i64 z,.slice j k1 c1,.bool s1,.int .i64 m,.slice l r C,.bool u] 62)).alloc (.cells #[.int .i64 E,.slice V k2 c2,.bool s2,.int .i64 Z,.slice N J G,.bool O] 62)).alloc (.cells #[.int .i64 0,.slice none 0 0,.bool false,.int .i64 0,.slice none 0 0,.bool false] 62)).drew) (w.heap.size+1+1)):=by
  have h:=(Blk.new ((w.alloc (.cells #[.int .i64 z,.slice j k1 c1,.bool s1,.int .i64 m,.slice l r C,.bool u] 62)).alloc (.cells #[.int .i64 E,.slice V k2 c2,.bool s2,.int .i64 Z,.slice N J G,.bool O] 62)) 62 #[.int .i64 0,.slice none 0 0,.bool false,.int .i64 0,.slice none 0 0,.bool false]).drew
  simp only [World.size_alloc] at h
  exact ⟨_,_,_,_,_,_,_,_,_,_,h⟩
 have aC:Hid (Below w.heap.size w ((((w.alloc (.cells #[.int .i64 z,.slice j k1 c1,.bool s1,.int .i64 m,.slice l r C,.bool u] 62)).alloc (.cells #[.int .i64 E,.slice V k2 c2,.bool s2,.int .i64 Z,.slice N J G,.bool O] 62)).alloc (.cells #[.int .i64 0,.slice none 0 0,.bool false,.int .i64 0,.slice none 0 0,.bool false] 62)).drew)):=ze (zt (ext (ext (zf w (.cells #[.int .i64 z,.slice j k1 c1,.bool s1,.int .i64 m,.slice l r C,.bool u] 62)) (zf _ (.cells #[.int .i64 E,.slice V k2 c2,.bool s2,.int .i64 Z,.slice N J G,.bool O] 62))) (zf _ (.cells #[.int .i64 0,.slice none 0 0,.bool false,.int .i64 0,.slice none 0 0,.bool false] 62))) 1)
 go_in
 go_wp2_with fail
 go_region_held3 (fun w' =>w'.cell? ⟨w.heap.size,0,none⟩=some (.int .i64 z)/\w'.cell? ⟨w.heap.size,1,none⟩=some (.slice j k1 c1)/\w'.cell? ⟨w.heap.size,2,none⟩=some (.bool s1)/\w'.cell? ⟨w.heap.size,3,none⟩=some (.int .i64 m)/\w'.cell? ⟨w.heap.size,4,none⟩=some (.slice l r C)/\w'.cell? ⟨w.heap.size,5,none⟩=some (.bool u)/\w'.cell? ⟨w.heap.size+1,0,none⟩=some (.int .i64 E)/\w'.cell? ⟨w.heap.size+1,1,none⟩=some (.slice V k2 c2)/\w'.cell? ⟨w.heap.size+1,2,none⟩=some (.bool s2)/\w'.cell? ⟨w.heap.size+1,3,none⟩=some (.int .i64 Z)/\w'.cell? ⟨w.heap.size+1,4,none⟩=some (.slice N J G)/\w'.cell? ⟨w.heap.size+1,5,none⟩=some (.bool O)/\w.heap.size<w'.heap.size/\w.heap.size+1<w'.heap.size/\Hid (Yt w' (w.heap.size+1+1))/\Hid (Below w.heap.size w w'))
  (first
    | with_reducible exact ⟨by go_keep,by go_keep,by go_keep,by go_keep,by go_keep,by go_keep,by go_keep,by go_keep,by go_keep,by go_keep,by go_keep,by go_keep,by first | (simp;done) | (simp;omega),by first | (simp;done) | (simp;omega),ap,aC⟩
    | (go_split_ands;with_reducible exact ⟨zv (by omega) ‹_›,zv (by omega) ‹_›,zv (by omega) ‹_›,zv (by omega) ‹_›,zv (by omega) ‹_›,zv (by omega) ‹_›,zv (by omega) ‹_›,zv (by omega) ‹_›,zv (by omega) ‹_›,zv (by omega) ‹_›,zv (by omega) ‹_›,zv (by omega) ‹_›,vI ‹_›,vI ‹_›,vR ‹_›,xU (by omega) ‹_›⟩)
    | (go_split_ands;with_reducible exact ⟨zh ‹_› ‹_› ‹_›,zh ‹_› ‹_› ‹_›,zh ‹_› ‹_› ‹_›,zh ‹_› ‹_› ‹_›,zh ‹_› ‹_› ‹_›,zh ‹_› ‹_› ‹_›,zh ‹_› ‹_› ‹_›,zh ‹_› ‹_› ‹_›,zh ‹_› ‹_› ‹_›,zh ‹_› ‹_› ‹_›,zh ‹_› ‹_› ‹_›,zh ‹_› ‹_› ‹_›,zU ‹_› ‹_›,zU ‹_› ‹_›,Zm ‹_› ‹_›,zo ‹_› ‹_›⟩)
    | go_keep)
  (first
    | (go_at_call_of 66 (Value.agg #[.int .i64 z,.slice j k1 c1,.bool s1]);refine (xi _ _ x.num y.den _ (ar.o.below (zO (by go_split_ands;assumption))) (aq.o.below (zO (by go_split_ands;assumption))) ax.o aD.o).mono ?_;rintro e w1 ⟨v1,rfl,aj,ab⟩;have X:=ze aj;clear aj;try replace Q:=ze (Q.o.below ab))
    | (go_at_call_of 66 (Value.agg #[.int .i64 m,.slice l r C,.bool u]);refine (xi _ _ x.den y.num _ (aF.o.below (zO (by go_split_ands;assumption))) (aA.o.below (zO (by go_split_ands;assumption))) aE.o aw.o).mono ?_;rintro e w2 ⟨v2,rfl,al,aa⟩;have Q:=ze al;clear al;try replace X:=ze (X.o.below aa))
    | (go_at_call 64;refine (ZG _ _ (x.num*y.den) ((x.den:Int)*y.num) _ X.o Q.o aB.o au.o az.o).mono ?_;rintro e wo ⟨vo,rfl,⟨K,I,M,U,F,Y,R,T,L,S,rfl,am,ak⟩,ae⟩;obtain ⟨xr,Ar,kr,cr,sr,yr,Br,aJ,aI,tr,b⟩:=(Zm (g:=w.heap.size+1+1) ae (by go_split_ands;assumption)).out;have r0:=b.cell 0;have r1:=b.cell 1;have r2:=b.cell 2;have r3:=b.cell 3;have r4:=b.cell 4;have r5:=b.cell 5;have f0:=b.frozen 0;have f1:=b.frozen 1;have f2:=b.frozen 2;have f3:=b.frozen 3;have f4:=b.frozen 4;have f5:=b.frozen 5;simp at r0 r1 r2 r3 r4 r5;have ao:=ze am;have aG:=ze ak;have ag:=ze b;clear am ak b;try replace X:=ze (X.o.below ae);try replace Q:=ze (Q.o.below ae)))
 all_goals
  go_split_ands
  have D:=yf (x:=K) (A:=I) (k:=M) (c:=U) (s:=F) (y:=Y) (B:=R) (k' :=T) (c' :=L) (t:=S) ag.o
  have aH:=yk (x:=K) (A:=I) (k:=M) (c:=U) (s:=F) (y:=Y) (B:=R) (k' :=T) (c' :=L) (t:=S) ao.o ag.o
  have av:=yk (x:=K) (A:=I) (k:=M) (c:=U) (s:=F) (y:=Y) (B:=R) (k' :=T) (c' :=L) (t:=S) aG.o ag.o
  have ay:=zO (by assumption:Hid (Below w.heap.size w (World.rat wo (w.heap.size+1+1) K I M U F Y R T L S)))
  have e0:=D.cell 0;have e1:=D.cell 1;have e2:=D.cell 2;have e3:=D.cell 3;have e4:=D.cell 4;have e5:=D.cell 5
  simp only [World.rat] at e0 e1 e2 e3 e4 e5
  simp at e0 e1 e2 e3 e4 e5
  go_wp2
  refine bodyPost_ret (v:=.agg #[.int .i64 K,.slice I M U,.bool F,.int .i64 Y,.slice R T L,.bool S]) (by simp [results,results31,go_sem,e0,e1,e2,e3,e4,e5]) rfl ?_
  exact ⟨_,rfl,⟨_,_,_,_,_,_,_,_,_,_,rfl,aH,av⟩,ay⟩
theorem vT (va vb:Value) (x y:Rat) (w:World) (ha:zE w va x) (hb:zE w vb y) (hx:xS 8388608 x) (hy:xS 8388608 y):
 Calls prog 34 #[va,vb] w (VN w (x+y)):=by
 obtain ⟨I,u,k1,c1,s1,D,z,E,J,G,rfl,aj,aw⟩:=ha
 obtain ⟨C,L,k2,c2,s2,y2,X,S,Q,Y,rfl,M,F⟩:=hb
 obtain ⟨ah,aa⟩:=hx
 obtain ⟨ac,ab⟩:=hy
 have aE:=ze (uC ah (show 8388608<=67108864 by omega))
 have au:=ze (uC aa (show 8388608<=67108864 by omega))
 have aD:=ze (uC ac (show 8388608<=67108864 by omega))
 have ar:=ze (uC ab (show 8388608<=67108864 by omega))
 have ae:=Zc ah ab
 have ag:=Zc ac aa
 have aB:=ze (uC (zje ae ag) (show 8388608+8388608+1<=33554432 by omega))
 have aG:=ze (uC (Zc aa ab) (show 8388608+8388608<=33554432 by omega))
 have az:=ze (uC ae (show 8388608+8388608<=67108864 by omega))
 have aJ:=ze (uC ag (show 8388608+8388608<=67108864 by omega))
 have aI:=ze (Int.mul_ne_zero (show (x.den:Int)≠0 by have:=x.den_nz;omega) (show (y.den:Int)≠0 by have:=y.den_nz;omega))
 rw [<- zsi]
 clear ah aa ac ab ae ag
 obtain ⟨aA,av,aH,am⟩:=hz4 aj aw M F
 clear aj aw M F
 have ay:Hid (Yt ((((w.alloc (.cells #[.int .i64 I,.slice u k1 c1,.bool s1,.int .i64 D,.slice z E J,.bool G] 62)).alloc (.cells #[.int .i64 C,.slice L k2 c2,.bool s2,.int .i64 y2,.slice X S Q,.bool Y] 62)).alloc (.cells #[.int .i64 0,.slice none 0 0,.bool false,.int .i64 0,.slice none 0 0,.bool false] 62)).drew) (w.heap.size+1+1)):=by
  have h:=(Blk.new ((w.alloc (.cells #[.int .i64 I,.slice u k1 c1,.bool s1,.int .i64 D,.slice z E J,.bool G] 62)).alloc (.cells #[.int .i64 C,.slice L k2 c2,.bool s2,.int .i64 y2,.slice X S Q,.bool Y] 62)) 62 #[.int .i64 0,.slice none 0 0,.bool false,.int .i64 0,.slice none 0 0,.bool false]).drew
  simp only [World.size_alloc] at h
  exact ⟨_,_,_,_,_,_,_,_,_,_,h⟩
 have aK:Hid (Below w.heap.size w ((((w.alloc (.cells #[.int .i64 I,.slice u k1 c1,.bool s1,.int .i64 D,.slice z E J,.bool G] 62)).alloc (.cells #[.int .i64 C,.slice L k2 c2,.bool s2,.int .i64 y2,.slice X S Q,.bool Y] 62)).alloc (.cells #[.int .i64 0,.slice none 0 0,.bool false,.int .i64 0,.slice none 0 0,.bool false] 62)).drew)):=ze (zt (ext (ext (zf w (.cells #[.int .i64 I,.slice u k1 c1,.bool s1,.int .i64 D,.slice z E J,.bool G] 62)) (zf _ (.cells #[.int .i64 C,.slice L k2 c2,.bool s2,.int .i64 y2,.slice X S Q,.bool Y] 62))) (zf _ (.cells #[.int .i64 0,.slice none 0 0,.bool false,.int .i64 0,.slice none 0 0,.bool false] 62))) 1)
 go_in
 go_wp2_with fail
 go_region_held3 (fun w' =>w'.cell? ⟨w.heap.size,0,none⟩=some (.int .i64 I)/\w'.cell? ⟨w.heap.size,1,none⟩=some (.slice u k1 c1)/\w'.cell? ⟨w.heap.size,2,none⟩=some (.bool s1)/\w'.cell? ⟨w.heap.size,3,none⟩=some (.int .i64 D)/\w'.cell? ⟨w.heap.size,4,none⟩=some (.slice z E J)/\w'.cell? ⟨w.heap.size,5,none⟩=some (.bool G)/\w'.cell? ⟨w.heap.size+1,0,none⟩=some (.int .i64 C)/\w'.cell? ⟨w.heap.size+1,1,none⟩=some (.slice L k2 c2)/\w'.cell? ⟨w.heap.size+1,2,none⟩=some (.bool s2)/\w'.cell? ⟨w.heap.size+1,3,none⟩=some (.int .i64 y2)/\w'.cell? ⟨w.heap.size+1,4,none⟩=some (.slice X S Q)/\w'.cell? ⟨w.heap.size+1,5,none⟩=some (.bool Y)/\w.heap.size<w'.heap.size/\w.heap.size+1<w'.heap.size/\Hid (Yt w' (w.heap.size+1+1))/\Hid (Below w.heap.size w w'))
  (first
    | with_reducible exact ⟨by go_keep,by go_keep,by go_keep,by go_keep,by go_keep,by go_keep,by go_keep,by go_keep,by go_keep,by go_keep,by go_keep,by go_keep,by first | (simp;done) | (simp;omega),by first | (simp;done) | (simp;omega),ay,aK⟩
    | (go_split_ands;with_reducible exact ⟨zv (by omega) ‹_›,zv (by omega) ‹_›,zv (by omega) ‹_›,zv (by omega) ‹_›,zv (by omega) ‹_›,zv (by omega) ‹_›,zv (by omega) ‹_›,zv (by omega) ‹_›,zv (by omega) ‹_›,zv (by omega) ‹_›,zv (by omega) ‹_›,zv (by omega) ‹_›,vI ‹_›,vI ‹_›,vR ‹_›,xU (by omega) ‹_›⟩)
    | (go_split_ands;with_reducible exact ⟨zh ‹_› ‹_› ‹_›,zh ‹_› ‹_› ‹_›,zh ‹_› ‹_› ‹_›,zh ‹_› ‹_› ‹_›,zh ‹_› ‹_› ‹_›,zh ‹_› ‹_› ‹_›,zh ‹_› ‹_› ‹_›,zh ‹_› ‹_› ‹_›,zh ‹_› ‹_› ‹_›,zh ‹_› ‹_› ‹_›,zh ‹_› ‹_› ‹_›,zh ‹_› ‹_› ‹_›,zU ‹_› ‹_›,zU ‹_› ‹_›,Zm ‹_› ‹_›,zo ‹_› ‹_›⟩)
    | go_keep)
  (first
    | (go_at_call_of 66 (Value.agg #[.int .i64 I,.slice u k1 c1,.bool s1]);refine (xi _ _ x.num y.den _ (aA.o.below (zO (by go_split_ands;assumption))) (am.o.below (zO (by go_split_ands;assumption))) aE.o ar.o).mono ?_;rintro e w1 ⟨v1,rfl,ak,M⟩;have r:=ze ak;clear ak;try replace l:=ze (l.o.below M);try replace m:=ze (m.o.below M);try replace j:=ze (j.o.below M))
    | (go_at_call_of 66 (Value.agg #[.int .i64 C,.slice L k2 c2,.bool s2]);refine (xi _ _ y.num x.den _ (aH.o.below (zO (by go_split_ands;assumption))) (av.o.below (zO (by go_split_ands;assumption))) aD.o au.o).mono ?_;rintro e w2 ⟨v2,rfl,ao,F⟩;have l:=ze ao;clear ao;try replace r:=ze (r.o.below F);try replace m:=ze (m.o.below F);try replace j:=ze (j.o.below F))
    | (go_at_call_of 66 (Value.agg #[.int .i64 D,.slice z E J,.bool G]);refine (xi _ _ x.den y.den _ (av.o.below (zO (by go_split_ands;assumption))) (am.o.below (zO (by go_split_ands;assumption))) au.o ar.o).mono ?_;rintro e w3 ⟨v3,rfl,ap,ad⟩;have m:=ze ap;clear ap;try replace r:=ze (r.o.below ad);try replace l:=ze (l.o.below ad);try replace j:=ze (j.o.below ad))
    | (go_at_call 67;refine (zen _ _ (x.num*y.den) (y.num*x.den) _ r.o l.o az.o aJ.o).mono ?_;rintro e w4 ⟨v4,rfl,al,ai⟩;have j:=ze al;clear al;try replace r:=ze (r.o.below ai);try replace l:=ze (l.o.below ai);try replace m:=ze (m.o.below ai))
    | (go_at_call 64;refine (ZG _ _ (x.num*y.den+y.num*x.den) ((x.den:Int)*y.den) _ j.o m.o aI.o aB.o aG.o).mono ?_;rintro e wo ⟨vo,rfl,⟨T,R,V,c5,N,x6,Z,k6,U,n6,rfl,aq,an⟩,O⟩;obtain ⟨xr,Ar,kr,cr,sr,yr,Br,aO,aN,tr,b⟩:=(Zm (g:=w.heap.size+1+1) O (by go_split_ands;assumption)).out;have r0:=b.cell 0;have r1:=b.cell 1;have r2:=b.cell 2;have r3:=b.cell 3;have r4:=b.cell 4;have r5:=b.cell 5;have f0:=b.frozen 0;have f1:=b.frozen 1;have f2:=b.frozen 2;have f3:=b.frozen 3;have f4:=b.frozen 4;have f5:=b.frozen 5;simp at r0 r1 r2 r3 r4 r5;have ax:=ze aq;have aL:=ze an;have af:=ze b;clear aq an b;try replace r:=ze (r.o.below O);try replace l:=ze (l.o.below O);try replace m:=ze (m.o.below O);try replace j:=ze (j.o.below O)))
 all_goals
  go_split_ands
  have K:=yf (x:=T) (A:=R) (k:=V) (c:=c5) (s:=N) (y:=x6) (B:=Z) (k' :=k6) (c' :=U) (t:=n6) af.o
  have aM:=yk (x:=T) (A:=R) (k:=V) (c:=c5) (s:=N) (y:=x6) (B:=Z) (k' :=k6) (c' :=U) (t:=n6) ax.o af.o
  have aC:=yk (x:=T) (A:=R) (k:=V) (c:=c5) (s:=N) (y:=x6) (B:=Z) (k' :=k6) (c' :=U) (t:=n6) aL.o af.o
  have aF:=zO (by assumption:Hid (Below w.heap.size w (World.rat wo (w.heap.size+1+1) T R V c5 N x6 Z k6 U n6)))
  have e0:=K.cell 0;have e1:=K.cell 1;have e2:=K.cell 2;have e3:=K.cell 3;have e4:=K.cell 4;have e5:=K.cell 5
  simp only [World.rat] at e0 e1 e2 e3 e4 e5
  simp at e0 e1 e2 e3 e4 e5
  go_wp2
  refine bodyPost_ret (v:=.agg #[.int .i64 T,.slice R V c5,.bool N,.int .i64 x6,.slice Z k6 U,.bool n6]) (by simp [results,results34,go_sem,e0,e1,e2,e3,e4,e5]) rfl ?_
  exact ⟨_,rfl,⟨_,_,_,_,_,_,_,_,_,_,rfl,aM,aC⟩,aF⟩
def Y7 (x y:Rat):Int:=if x<y then -1 else if y<x then 1 else 0
theorem zmv (x y:Rat):yj (x.num*y.den) (y.num*x.den)=Y7 x y:=by
 unfold yj Y7
 have e:=Rat.lt_iff x y
 have j:=Rat.lt_iff y x
 by_cases a:x<y
 . rw [if_pos (e.1 a),if_pos a]
 rw [if_neg (fun h=>a (e.2 h)),if_neg a]
 by_cases b:y<x
 . rw [if_pos (j.1 b),if_pos b]
 rw [if_neg (fun h=>b (j.2 h)),if_neg b]
theorem zsa (x:Rat):yj x.num 0=Y7 x 0:=by
 have:=zmv x 0
 simp at this
 rw [<- this]
theorem xS.neg {M:Nat} {q:Rat} (h:xS M q):xS M (-q):=by
 unfold xS at h |-
 rw [Rat.neg_num,Rat.neg_den,Int.natAbs_neg]
 exact h
theorem vy (va:Value) (x:Rat) (w:World) (ha:zE w va x):
 Calls prog 19 #[va] w (zij w (.int .i64 (Y7 x 0))):=by
 obtain ⟨y,l,k1,c1,s1,D,B,E,m,r,rfl,b,C⟩:=ha
 have j:=ze (zf w (.cells #[.int .i64 y,.slice l k1 c1,.bool s1,.int .i64 D,.slice B E m,.bool r] 62))
 have z:=ze (b.below j.o)
 rw [<- zsa]
 clear b C
 go_in
 go_wp2_with fail
 refine (YH _ x.num _ z.o).mono ?_
 rintro e w1 ⟨rfl,u⟩
 go_wp2
 go_ret
 exact ⟨rfl,ext j.o u⟩
theorem zbx (va vb:Value) (x y:Rat) (w:World) (ha:zE w va x) (hb:zE w vb y) (hx:xS 8388608 x) (hy:xS 8388608 y):
 Calls prog 33 #[va,vb] w (zij w (.int .i64 (Y7 x y))):=by
 obtain ⟨B,l,k1,c1,s1,F,O,K,L,M,rfl,S,V⟩:=ha
 obtain ⟨r,u,k2,c2,s2,R,Q,N,I,C,rfl,z,m⟩:=hb
 obtain ⟨J,D⟩:=hx
 obtain ⟨E,G⟩:=hy
 have ai:=ze (uC J (show 8388608<=67108864 by omega))
 have ab:=ze (uC D (show 8388608<=67108864 by omega))
 have ah:=ze (uC E (show 8388608<=67108864 by omega))
 have Y:=ze (uC G (show 8388608<=67108864 by omega))
 have ag:=ze (uC (Zc J G) (show 8388608+8388608<=67108864 by omega))
 have aa:=ze (uC (Zc E D) (show 8388608+8388608<=67108864 by omega))
 rw [<- zmv]
 clear J D E G
 obtain ⟨ad,ac,ae,Z⟩:=hz4 S V z m
 clear S V z m
 have af:Hid (Below w.heap.size w (((w.alloc (.cells #[.int .i64 B,.slice l k1 c1,.bool s1,.int .i64 F,.slice O K L,.bool M] 62)).alloc (.cells #[.int .i64 r,.slice u k2 c2,.bool s2,.int .i64 R,.slice Q N I,.bool C] 62)).drew)):=ze (zt (ext (zf w (.cells #[.int .i64 B,.slice l k1 c1,.bool s1,.int .i64 F,.slice O K L,.bool M] 62)) (zf _ (.cells #[.int .i64 r,.slice u k2 c2,.bool s2,.int .i64 R,.slice Q N I,.bool C] 62))) 1)
 go_in
 go_wp2_with fail
 go_region_held3 (fun w' =>w'.cell? ⟨w.heap.size,0,none⟩=some (.int .i64 B)/\w'.cell? ⟨w.heap.size,1,none⟩=some (.slice l k1 c1)/\w'.cell? ⟨w.heap.size,2,none⟩=some (.bool s1)/\w'.cell? ⟨w.heap.size,3,none⟩=some (.int .i64 F)/\w'.cell? ⟨w.heap.size,4,none⟩=some (.slice O K L)/\w'.cell? ⟨w.heap.size,5,none⟩=some (.bool M)/\w'.cell? ⟨w.heap.size+1,0,none⟩=some (.int .i64 r)/\w'.cell? ⟨w.heap.size+1,1,none⟩=some (.slice u k2 c2)/\w'.cell? ⟨w.heap.size+1,2,none⟩=some (.bool s2)/\w'.cell? ⟨w.heap.size+1,3,none⟩=some (.int .i64 R)/\w'.cell? ⟨w.heap.size+1,4,none⟩=some (.slice Q N I)/\w'.cell? ⟨w.heap.size+1,5,none⟩=some (.bool C)/\w.heap.size<w'.heap.size/\w.heap.size+1<w'.heap.size/\Hid (Below w.heap.size w w'))
  (first
    | with_reducible exact ⟨by go_keep,by go_keep,by go_keep,by go_keep,by go_keep,by go_keep,by go_keep,by go_keep,by go_keep,by go_keep,by go_keep,by go_keep,by first | (simp;done) | (simp;omega),by first | (simp;done) | (simp;omega),af⟩
    | (go_split_ands;with_reducible exact ⟨zh ‹_› ‹_› ‹_›,zh ‹_› ‹_› ‹_›,zh ‹_› ‹_› ‹_›,zh ‹_› ‹_› ‹_›,zh ‹_› ‹_› ‹_›,zh ‹_› ‹_› ‹_›,zh ‹_› ‹_› ‹_›,zh ‹_› ‹_› ‹_›,zh ‹_› ‹_› ‹_›,zh ‹_› ‹_› ‹_›,zh ‹_› ‹_› ‹_›,zh ‹_› ‹_› ‹_›,zU ‹_› ‹_›,zU ‹_› ‹_›,zo ‹_› ‹_›⟩)
    | go_keep)
  (first
    | (go_at_call_of 66 (Value.agg #[.int .i64 B,.slice l k1 c1,.bool s1]);refine (xi _ _ x.num y.den _ (ad.o.below (zO (by go_split_ands;assumption))) (Z.o.below (zO (by go_split_ands;assumption))) ai.o Y.o).mono ?_;rintro e w1 ⟨v1,rfl,T,z⟩;have j:=ze T;clear T;try replace b:=ze (b.o.below z))
    | (go_at_call_of 66 (Value.agg #[.int .i64 r,.slice u k2 c2,.bool s2]);refine (xi _ _ y.num x.den _ (ae.o.below (zO (by go_split_ands;assumption))) (ac.o.below (zO (by go_split_ands;assumption))) ah.o ab.o).mono ?_;rintro e w2 ⟨v2,rfl,U,m⟩;have b:=ze U;clear U;try replace j:=ze (j.o.below m))
    | (go_at_call 65;refine (zeh _ _ (x.num*y.den) (y.num*x.den) _ j.o b.o ag.o aa.o).mono ?_;rintro e wc ⟨rfl,aj⟩;try replace j:=ze (j.o.below hbo);try replace b:=ze (b.o.below hbo)))
 all_goals
  go_split_ands
  have X:=zO (by assumption:Hid (Below w.heap.size w wc))
  go_wp2
  go_ret
  exact ⟨rfl,X⟩
theorem Xg (va:Value) (x:Rat) (w:World) (ha:zE w va x):
 Calls prog 48 #[va] w (VN w (-x)):=by
 obtain ⟨J,D,k1,c1,s1,j,u,l,m,r,rfl,S,U⟩:=ha
 have ab:=ze S
 have aa:=ze U
 clear S U
 have ae:Hid (Yt (((w.alloc (.cells #[.int .i64 J,.slice D k1 c1,.bool s1,.int .i64 j,.slice u l m,.bool r] 62)).alloc (.cells #[.int .i64 0,.slice none 0 0,.bool false,.int .i64 0,.slice none 0 0,.bool false] 62)).drew) (w.heap.size+1)):=by
  have h:=(Blk.new (w.alloc (.cells #[.int .i64 J,.slice D k1 c1,.bool s1,.int .i64 j,.slice u l m,.bool r] 62)) 62 #[.int .i64 0,.slice none 0 0,.bool false,.int .i64 0,.slice none 0 0,.bool false]).drew
  simp only [World.size_alloc] at h
  exact ⟨_,_,_,_,_,_,_,_,_,_,h⟩
 have ac:Hid (Below w.heap.size w (((w.alloc (.cells #[.int .i64 J,.slice D k1 c1,.bool s1,.int .i64 j,.slice u l m,.bool r] 62)).alloc (.cells #[.int .i64 0,.slice none 0 0,.bool false,.int .i64 0,.slice none 0 0,.bool false] 62)).drew)):=ze (zt (ext (zf w (.cells #[.int .i64 J,.slice D k1 c1,.bool s1,.int .i64 j,.slice u l m,.bool r] 62)) (zf _ (.cells #[.int .i64 0,.slice none 0 0,.bool false,.int .i64 0,.slice none 0 0,.bool false] 62))) 1)
 go_in
 go_wp2_with fail
 go_region_held3 (fun w' =>w'.cell? ⟨w.heap.size,0,none⟩=some (.int .i64 J)/\w'.cell? ⟨w.heap.size,1,none⟩=some (.slice D k1 c1)/\w'.cell? ⟨w.heap.size,2,none⟩=some (.bool s1)/\w'.cell? ⟨w.heap.size,3,none⟩=some (.int .i64 j)/\w'.cell? ⟨w.heap.size,4,none⟩=some (.slice u l m)/\w'.cell? ⟨w.heap.size,5,none⟩=some (.bool r)/\w.heap.size<w'.heap.size/\Hid (Yt w' (w.heap.size+1))/\Hid (Below w.heap.size w w'))
  (first
    | with_reducible exact ⟨by go_keep,by go_keep,by go_keep,by go_keep,by go_keep,by go_keep,by first | (simp;done) | (simp;omega),ae,ac⟩
    | (go_split_ands;with_reducible exact ⟨zv (by omega) ‹_›,zv (by omega) ‹_›,zv (by omega) ‹_›,zv (by omega) ‹_›,zv (by omega) ‹_›,zv (by omega) ‹_›,vI ‹_›,vR ‹_›,xU (by omega) ‹_›⟩)
    | (go_split_ands;with_reducible exact ⟨zh ‹_› ‹_› ‹_›,zh ‹_› ‹_› ‹_›,zh ‹_› ‹_› ‹_›,zh ‹_› ‹_› ‹_›,zh ‹_› ‹_› ‹_›,zh ‹_› ‹_› ‹_›,zU ‹_› ‹_›,Zm ‹_› ‹_›,zo ‹_› ‹_›⟩)
    | go_keep)
  (first
    | (go_at_call 81;refine (yK _ x.num _ (ab.o.below (zO (by go_split_ands;assumption)))).mono ?_;rintro e wo ⟨vo,rfl,K,T⟩;obtain ⟨I,F,E,G,C,rfl,_,_,_⟩:=K.form;have af:=ze (ext (zO (by go_split_ands;assumption)) T);obtain ⟨xr,Ar,kr,cr,sr,yr,Br,ai,aj,tr,b⟩:=(Zm (g:=w.heap.size+1) T (by go_split_ands;assumption)).out;have r0:=b.cell 0;have X:=b.cell 1;have r2:=b.cell 2;have V:=b.cell 3;have Z:=b.cell 4;have r5:=b.cell 5;have f0:=b.frozen 0;have f1:=b.frozen 1;have f2:=b.frozen 2;have f3:=b.frozen 3;have f4:=b.frozen 4;have f5:=b.frozen 5;simp at r0 X r2 V Z r5;have ad:=ze K;have M:=ze b;clear K b))
 all_goals
  go_split_ands
  have z:=yf (x:=I) (A:=F) (k:=E) (c:=G) (s:=C) (y:=j) (B:=u) (k' :=l) (c' :=m) (t:=r) M.o
  have ah:=yk (x:=I) (A:=F) (k:=E) (c:=G) (s:=C) (y:=j) (B:=u) (k' :=l) (c' :=m) (t:=r) ad.o M.o
  have ag:=yk (x:=I) (A:=F) (k:=E) (c:=G) (s:=C) (y:=j) (B:=u) (k' :=l) (c' :=m) (t:=r) (aa.o.below af.o) M.o
  have Y:=zO (by assumption:Hid (Below w.heap.size w (World.rat wo (w.heap.size+1) I F E G C j u l m r)))
  have e0:=z.cell 0;have O:=z.cell 1;have N:=z.cell 2;have Q:=z.cell 3;have R:=z.cell 4;have L:=z.cell 5
  simp only [World.rat] at e0 O N Q R L
  simp at e0 O N Q R L
  go_wp2
  refine bodyPost_ret (v:=.agg #[.int .i64 I,.slice F E G,.bool C,.int .i64 j,.slice u l m,.bool r]) (by simp [results,results48,go_sem,e0,O,N,Q,R,L]) rfl ?_
  exact ⟨_,rfl,⟨_,_,_,_,_,_,_,_,_,_,rfl,ah,ag⟩,Y⟩
theorem zg4 (va vb:Value) (x y:Rat) (w:World) (ha:zE w va x) (hb:zE w vb y) (hx:xS 8388608 x) (hy:xS 8388608 y):
 Calls prog 28 #[va,vb] w (VN w (x - y)):=by
 obtain ⟨U,z,k1,c1,s1,r,N,E,G,I,rfl,ac,ah⟩:=ha
 obtain ⟨O,R,k2,c2,s2,V,X,K,u,l,rfl,ab,ag⟩:=hb
 have aj:=ze hx
 have aw:=ze hy.neg
 rw [Rat.sub_eq_add_neg]
 clear hx hy
 obtain ⟨an,am,ao,al⟩:=hz4 ac ah ab ag
 clear ac ah ab ag
 have au:Hid (Yt ((((w.alloc (.cells #[.int .i64 U,.slice z k1 c1,.bool s1,.int .i64 r,.slice N E G,.bool I] 62)).alloc (.cells #[.int .i64 O,.slice R k2 c2,.bool s2,.int .i64 V,.slice X K u,.bool l] 62)).alloc (.cells #[.int .i64 0,.slice none 0 0,.bool false,.int .i64 0,.slice none 0 0,.bool false] 62)).drew) (w.heap.size+1+1)):=by
  have h:=(Blk.new ((w.alloc (.cells #[.int .i64 U,.slice z k1 c1,.bool s1,.int .i64 r,.slice N E G,.bool I] 62)).alloc (.cells #[.int .i64 O,.slice R k2 c2,.bool s2,.int .i64 V,.slice X K u,.bool l] 62)) 62 #[.int .i64 0,.slice none 0 0,.bool false,.int .i64 0,.slice none 0 0,.bool false]).drew
  simp only [World.size_alloc] at h
  exact ⟨_,_,_,_,_,_,_,_,_,_,h⟩
 have ap:Hid (Below w.heap.size w ((((w.alloc (.cells #[.int .i64 U,.slice z k1 c1,.bool s1,.int .i64 r,.slice N E G,.bool I] 62)).alloc (.cells #[.int .i64 O,.slice R k2 c2,.bool s2,.int .i64 V,.slice X K u,.bool l] 62)).alloc (.cells #[.int .i64 0,.slice none 0 0,.bool false,.int .i64 0,.slice none 0 0,.bool false] 62)).drew)):=ze (zt (ext (ext (zf w (.cells #[.int .i64 U,.slice z k1 c1,.bool s1,.int .i64 r,.slice N E G,.bool I] 62)) (zf _ (.cells #[.int .i64 O,.slice R k2 c2,.bool s2,.int .i64 V,.slice X K u,.bool l] 62))) (zf _ (.cells #[.int .i64 0,.slice none 0 0,.bool false,.int .i64 0,.slice none 0 0,.bool false] 62))) 1)
 go_in
 go_wp2_with fail
 go_region_held3 (fun w' =>w'.cell? ⟨w.heap.size,0,none⟩=some (.int .i64 U)/\w'.cell? ⟨w.heap.size,1,none⟩=some (.slice z k1 c1)/\w'.cell? ⟨w.heap.size,2,none⟩=some (.bool s1)/\w'.cell? ⟨w.heap.size,3,none⟩=some (.int .i64 r)/\w'.cell? ⟨w.heap.size,4,none⟩=some (.slice N E G)/\w'.cell? ⟨w.heap.size,5,none⟩=some (.bool I)/\w'.cell? ⟨w.heap.size+1,0,none⟩=some (.int .i64 O)/\w'.cell? ⟨w.heap.size+1,1,none⟩=some (.slice R k2 c2)/\w'.cell? ⟨w.heap.size+1,2,none⟩=some (.bool s2)/\w'.cell? ⟨w.heap.size+1,3,none⟩=some (.int .i64 V)/\w'.cell? ⟨w.heap.size+1,4,none⟩=some (.slice X K u)/\w'.cell? ⟨w.heap.size+1,5,none⟩=some (.bool l)/\w.heap.size<w'.heap.size/\w.heap.size+1<w'.heap.size/\Hid (Yt w' (w.heap.size+1+1))/\Hid (Below w.heap.size w w'))
  (first
    | with_reducible exact ⟨by go_keep,by go_keep,by go_keep,by go_keep,by go_keep,by go_keep,by go_keep,by go_keep,by go_keep,by go_keep,by go_keep,by go_keep,by first | (simp;done) | (simp;omega),by first | (simp;done) | (simp;omega),au,ap⟩
    | (go_split_ands;with_reducible exact ⟨zv (by omega) ‹_›,zv (by omega) ‹_›,zv (by omega) ‹_›,zv (by omega) ‹_›,zv (by omega) ‹_›,zv (by omega) ‹_›,zv (by omega) ‹_›,zv (by omega) ‹_›,zv (by omega) ‹_›,zv (by omega) ‹_›,zv (by omega) ‹_›,zv (by omega) ‹_›,vI ‹_›,vI ‹_›,vR ‹_›,xU (by omega) ‹_›⟩)
    | (go_split_ands;with_reducible exact ⟨zh ‹_› ‹_› ‹_›,zh ‹_› ‹_› ‹_›,zh ‹_› ‹_› ‹_›,zh ‹_› ‹_› ‹_›,zh ‹_› ‹_› ‹_›,zh ‹_› ‹_› ‹_›,zh ‹_› ‹_› ‹_›,zh ‹_› ‹_› ‹_›,zh ‹_› ‹_› ‹_›,zh ‹_› ‹_› ‹_›,zh ‹_› ‹_› ‹_›,zh ‹_› ‹_› ‹_›,zU ‹_› ‹_›,zU ‹_› ‹_›,Zm ‹_› ‹_›,zo ‹_› ‹_›⟩)
    | go_keep)
  (first
    | (go_at_call 48;refine (Xg _ y _ (zE.below ⟨_,_,_,_,_,_,_,_,_,_,rfl,ao.o,al.o⟩ (zO (by go_split_ands;assumption)))).mono ?_;rintro e w1 ⟨v1,rfl,ae,ab⟩;have aa:=ze ae;clear ae; )
    | (go_at_call 34;refine (vT _ _ x (-y) _ (zE.below ⟨_,_,_,_,_,_,_,_,_,_,rfl,an.o,am.o⟩ (zO (by go_split_ands;assumption))) aa.o aj.o aw.o).mono ?_;rintro e wo ⟨vo,rfl,⟨Q,D,C,M,m,T,F,L,S,J,rfl,ad,ai⟩,af⟩;obtain ⟨xr,Ar,kr,cr,sr,yr,Br,ay,az,tr,b⟩:=(Zm (g:=w.heap.size+1+1) af (by go_split_ands;assumption)).out;have r0:=b.cell 0;have r1:=b.cell 1;have r2:=b.cell 2;have r3:=b.cell 3;have r4:=b.cell 4;have r5:=b.cell 5;have f0:=b.frozen 0;have f1:=b.frozen 1;have f2:=b.frozen 2;have f3:=b.frozen 3;have f4:=b.frozen 4;have f5:=b.frozen 5;simp at r0 r1 r2 r3 r4 r5;have ar:=ze ad;have aq:=ze ai;have Z:=ze b;clear ad ai b;try replace aa:=ze (aa.o.below af)))
 all_goals
  go_split_ands
  have j:=yf (x:=Q) (A:=D) (k:=C) (c:=M) (s:=m) (y:=T) (B:=F) (k' :=L) (c' :=S) (t:=J) Z.o
  have ax:=yk (x:=Q) (A:=D) (k:=C) (c:=M) (s:=m) (y:=T) (B:=F) (k' :=L) (c' :=S) (t:=J) ar.o Z.o
  have av:=yk (x:=Q) (A:=D) (k:=C) (c:=M) (s:=m) (y:=T) (B:=F) (k' :=L) (c' :=S) (t:=J) aq.o Z.o
  have ak:=zO (by assumption:Hid (Below w.heap.size w (World.rat wo (w.heap.size+1+1) Q D C M m T F L S J)))
  have e0:=j.cell 0;have e1:=j.cell 1;have e2:=j.cell 2;have e3:=j.cell 3;have e4:=j.cell 4;have Y:=j.cell 5
  simp only [World.rat] at e0 e1 e2 e3 e4 Y
  simp at e0 e1 e2 e3 e4 Y
  go_wp2
  refine bodyPost_ret (v:=.agg #[.int .i64 Q,.slice D C M,.bool m,.int .i64 T,.slice F L S,.bool J]) (by simp [results,results28,go_sem,e0,e1,e2,e3,e4,Y]) rfl ?_
  exact ⟨_,rfl,⟨_,_,_,_,_,_,_,_,_,_,rfl,ax,av⟩,ak⟩
end Go.Proofs.YtofmkndhocinmaaGreatDoor
