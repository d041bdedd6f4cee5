/- Parts of the proof. -/
import Derived.Deep.DrawnRows
import Derived.Test.YthbmhkiphmcogaaGreatDoorMe11
set_option linter.all false
set_option maxRecDepth 100000
set_option maxHeartbeats 32000000
namespace Go.Proofs.YthbmhkiphmcogaaGreatDoor
open Proofs.Tryz Go.RowKit Go.Deep
attribute [local go_sem ↓] Go.wp_at_zero Go.wp_at_succ
theorem ZT (q:Rat):q=Rat.divInt q.num q.den:=(Rat.num_divInt_den q).symm
theorem zni (q:Rat):((q.den:Int):Rat)≠0:=by
 have:=q.den_nz
 exact_mod_cast this
theorem zt9 (x y:Rat):Rat.divInt (x.num*y.den+y.num*x.den) ((x.den:Int)*y.den)=x+y:=by
 have b:=zni x
 have e:=zni y
 conv=>rhs;rw [ZT x,ZT y]
 simp only [Rat.divInt_eq_div]
 push_cast
 push_cast at b e
 grind
theorem zud (x y:Rat):Rat.divInt (x.num*y.num) ((x.den:Int)*y.den)=x*y:=by
 have b:=zni x
 have e:=zni y
 conv=>rhs;rw [ZT x,ZT y]
 simp only [Rat.divInt_eq_div]
 push_cast
 push_cast at b e
 grind
theorem zx2 (q:Rat) (h:q≠0):((q.num:Int):Rat)≠0:=by
 intro e
 apply h
 have:q.num=0:=by exact_mod_cast e
 exact Rat.num_eq_zero.1 this
theorem zqq (x y:Rat) (h:y≠0):Rat.divInt (x.num*y.den) ((x.den:Int)*y.num)=x / y:=by
 have b:=zni x
 have e:=zni y
 have j:=zx2 y h
 conv=>rhs;rw [ZT x,ZT y]
 simp only [Rat.divInt_eq_div]
 push_cast
 push_cast at b e
 grind
def Z9 (M:Nat) (q:Rat):Prop:=len 4294967296 q.num.natAbs<=M/\len 4294967296 (q.den:Int).natAbs<=M
theorem Ys {a b:Int} {M K:Nat} (h1:len 4294967296 a.natAbs<=M) (h2:len 4294967296 b.natAbs<=K):len 4294967296 (a*b).natAbs<=M+K:=by
 rw [Int.natAbs_mul]
 exact Nat.le_trans (VS (by omega) _ _) (by omega)
theorem zla {a b:Int} {M:Nat} (h1:len 4294967296 a.natAbs<=M) (h2:len 4294967296 b.natAbs<=M):len 4294967296 (a+b).natAbs<=M+1:=by
 have e:(a+b).natAbs<=a.natAbs+b.natAbs:=Int.natAbs_add_le a b
 refine Nat.le_trans (vI (by omega) e) (Nat.le_trans (zox (by omega) _ _) (by omega))
theorem zE {W:World} {g g' i:Nat} {x y:Int} {A B:Option Addr} {k c k' c' :Nat} {s t:Bool} {v:Value} (hne:g≠g') (h:W.cell? ⟨g,i,none⟩=some v):(World.rat W g' x A k c s y B k' c' t).cell? ⟨g,i,none⟩=some v:=by
 rw [<- h]
 simp only [World.rat]
 rw [World.cell?_setCell_other,World.cell?_setCell_other,World.cell?_setCell_other,World.cell?_setCell_other,World.cell?_setCell_other,World.cell?_setCell_other]
 all_goals (intro e;injection e with e;exact hne e.symm)
theorem ZK {W:World} {g' n:Nat} {x y:Int} {A B:Option Addr} {k c k' c' :Nat} {s t:Bool} (h:n<W.heap.size):n<(World.rat W g' x A k c s y B k' c' t).heap.size:=by
 simp only [World.rat,World.setCell,Array.size_modify]
 exact h
def XN (w:World) (g:Nat):Prop:=∃ x A k c s y B k' c' t,Blk w g 55 #[.int .i64 x,.slice A k c,.bool s,.int .i64 y,.slice B k' c',.bool t]
theorem Ym {w w' :World} {g:Nat} (hb:Below w.heap.size w w') (h:Hid (XN w g)):Hid (XN w' g):=by
 obtain ⟨x,A,k,c,s,y,B,k',c',t,h⟩:=h.out
 exact ⟨x,A,k,c,s,y,B,k',c',t,h.below hb h.lt⟩
theorem ZS {w:World} {g:Nat} {x y:Int} {A B:Option Addr} {k c k' c' :Nat} {s t:Bool} (h:Hid (XN w g)):Hid (XN (World.rat w g x A k c s y B k' c' t) g):=by
 obtain ⟨x,A,k,c,s,y,B,k',c',t,h⟩:=h.out
 exact ⟨_,_,_,_,_,_,_,_,_,_,yx h⟩
theorem Zp {w0 w:World} {g:Nat} {x y:Int} {A B:Option Addr} {k c k' c' :Nat} {s t:Bool} (hg:w0.heap.size<=g) (h:Hid (Below w0.heap.size w0 w)):Hid (Below w0.heap.size w0 (World.rat w g x A k c s y B k' c' t)):=yu h.out hg
theorem VQ (va vb:Value) (x y:Rat) (w:World) (ha:yc w va x) (hb:yc w vb y) (hx:Z9 8388608 x) (hy:Z9 8388608 y):
 Calls Tryz.prog 123 #[va,vb] w (zdv w (x*y)):=by
 obtain ⟨r,C,k1,c1,s1,D,j,m,u,z,rfl,al,ak⟩:=ha
 obtain ⟨Y,T,k2,c2,s2,V,X,R,J,M,rfl,ab,aa⟩:=hb
 obtain ⟨ag,ad⟩:=hx
 obtain ⟨ac,ae⟩:=hy
 have aC:=ze (Nat.le_trans ag (show 8388608<=67108864 by omega))
 have aB:=ze (Nat.le_trans ad (show 8388608<=67108864 by omega))
 have au:=ze (Nat.le_trans ac (show 8388608<=67108864 by omega))
 have aq:=ze (Nat.le_trans ae (show 8388608<=67108864 by omega))
 have aG:=ze (Nat.le_trans (Ys ag ac) (show 8388608+8388608<=33554432 by omega))
 have aE:=ze (Nat.le_trans (Ys ad ae) (show 8388608+8388608<=33554432 by omega))
 have aA:=ze (Int.mul_ne_zero (show (x.den:Int)≠0 by have:=x.den_nz;omega) (show (y.den:Int)≠0 by have:=y.den_nz;omega))
 rw [<- zud]
 clear ag ad ac ae
 have av:=ze al
 have ap:=ze ak
 have ao:=ze ab
 have aH:=ze aa
 clear al ak ab aa
 have ar:Hid (XN ((((w.alloc (.cells #[.int .i64 r,.slice C k1 c1,.bool s1,.int .i64 D,.slice j m u,.bool z] 55)).alloc (.cells #[.int .i64 Y,.slice T k2 c2,.bool s2,.int .i64 V,.slice X R J,.bool M] 55)).alloc (.cells #[.int .i64 0,.slice none 0 0,.bool false,.int .i64 0,.slice none 0 0,.bool false] 55)).drew) (w.heap.size+1+1)):=by
  have h:=(Blk.new ((w.alloc (.cells #[.int .i64 r,.slice C k1 c1,.bool s1,.int .i64 D,.slice j m u,.bool z] 55)).alloc (.cells #[.int .i64 Y,.slice T k2 c2,.bool s2,.int .i64 V,.slice X R J,.bool M] 55)) 55 #[.int .i64 0,.slice none 0 0,.bool false,.int .i64 0,.slice none 0 0,.bool false]).drew
  simp only [World.size_alloc] at h
  exact ⟨_,_,_,_,_,_,_,_,_,_,h⟩
 have az:Hid (Below w.heap.size w ((((w.alloc (.cells #[.int .i64 r,.slice C k1 c1,.bool s1,.int .i64 D,.slice j m u,.bool z] 55)).alloc (.cells #[.int .i64 Y,.slice T k2 c2,.bool s2,.int .i64 V,.slice X R J,.bool M] 55)).alloc (.cells #[.int .i64 0,.slice none 0 0,.bool false,.int .i64 0,.slice none 0 0,.bool false] 55)).drew)):=ze (zo (ext (ext (zf w (.cells #[.int .i64 r,.slice C k1 c1,.bool s1,.int .i64 D,.slice j m u,.bool z] 55)) (zf _ (.cells #[.int .i64 Y,.slice T k2 c2,.bool s2,.int .i64 V,.slice X R J,.bool M] 55))) (zf _ (.cells #[.int .i64 0,.slice none 0 0,.bool false,.int .i64 0,.slice none 0 0,.bool false] 55))) 1)
 go_enter func123,ntmps123
 go_wp2_with fail
 go_region_held3 (fun w' =>w'.cell? ⟨w.heap.size,0,none⟩=some (.int .i64 r)/\w'.cell? ⟨w.heap.size,1,none⟩=some (.slice C k1 c1)/\w'.cell? ⟨w.heap.size,2,none⟩=some (.bool s1)/\w'.cell? ⟨w.heap.size,3,none⟩=some (.int .i64 D)/\w'.cell? ⟨w.heap.size,4,none⟩=some (.slice j m u)/\w'.cell? ⟨w.heap.size,5,none⟩=some (.bool z)/\w'.cell? ⟨w.heap.size+1,0,none⟩=some (.int .i64 Y)/\w'.cell? ⟨w.heap.size+1,1,none⟩=some (.slice T k2 c2)/\w'.cell? ⟨w.heap.size+1,2,none⟩=some (.bool s2)/\w'.cell? ⟨w.heap.size+1,3,none⟩=some (.int .i64 V)/\w'.cell? ⟨w.heap.size+1,4,none⟩=some (.slice X R J)/\w'.cell? ⟨w.heap.size+1,5,none⟩=some (.bool M)/\w.heap.size<w'.heap.size/\w.heap.size+1<w'.heap.size/\Hid (XN w' (w.heap.size+1+1))/\Hid (Below w.heap.size w w'))
  (first
    | with_reducible exact ⟨by go_keep,by go_keep,by go_keep,by go_keep,by go_keep,by go_keep,by go_keep,by go_keep,by go_keep,by go_keep,by go_keep,by go_keep,by first | (simp;done) | (simp;omega),by first | (simp;done) | (simp;omega),ar,az⟩
    | (go_split_ands;with_reducible exact ⟨zE (by omega) ‹_›,zE (by omega) ‹_›,zE (by omega) ‹_›,zE (by omega) ‹_›,zE (by omega) ‹_›,zE (by omega) ‹_›,zE (by omega) ‹_›,zE (by omega) ‹_›,zE (by omega) ‹_›,zE (by omega) ‹_›,zE (by omega) ‹_›,zE (by omega) ‹_›,ZK ‹_›,ZK ‹_›,ZS ‹_›,Zp (by omega) ‹_›⟩)
    | (go_split_ands;with_reducible exact ⟨zj ‹_› ‹_› ‹_›,zj ‹_› ‹_› ‹_›,zj ‹_› ‹_› ‹_›,zj ‹_› ‹_› ‹_›,zj ‹_› ‹_› ‹_›,zj ‹_› ‹_› ‹_›,zj ‹_› ‹_› ‹_›,zj ‹_› ‹_› ‹_›,zj ‹_› ‹_› ‹_›,zj ‹_› ‹_› ‹_›,zj ‹_› ‹_› ‹_›,zj ‹_› ‹_› ‹_›,zG ‹_› ‹_›,zG ‹_› ‹_›,Ym ‹_› ‹_›,zr ‹_› ‹_›⟩)
    | go_keep)
  (first
    | (go_at_call_of 55 (Value.agg #[.int .i64 r,.slice C k1 c1,.bool s1]);refine (vq _ _ x.num y.num _ (av.o.below (zK (by go_split_ands;assumption))) (ao.o.below (zK (by go_split_ands;assumption))) aC.o au.o).mono ?_;rintro e w1 ⟨v1,rfl,aj,ab⟩;have U:=ze aj;clear aj;try replace G:=ze (G.o.below ab))
    | (go_at_call_of 55 (Value.agg #[.int .i64 D,.slice j m u,.bool z]);refine (vq _ _ x.den y.den _ (ap.o.below (zK (by go_split_ands;assumption))) (aH.o.below (zK (by go_split_ands;assumption))) aB.o aq.o).mono ?_;rintro e w2 ⟨v2,rfl,an,aa⟩;have G:=ze an;clear an;try replace U:=ze (U.o.below aa))
    | (go_at_call 54;refine (Yp _ _ (x.num*y.num) ((x.den:Int)*y.den) _ U.o G.o aA.o aG.o aE.o).mono ?_;rintro e wo ⟨vo,rfl,⟨I,F,K,E,Z,N,Q,L,S,O,rfl,am,ai⟩,af⟩;obtain ⟨xr,Ar,kr,cr,sr,yr,Br,aI,aJ,tr,b⟩:=(Ym (g:=w.heap.size+1+1) af (by go_split_ands;assumption)).out;have r0:=b.cell 0;have r1:=b.cell 1;have r2:=b.cell 2;have r3:=b.cell 3;have r4:=b.cell 4;have r5:=b.cell 5;have f0:=b.frozen 0;have f1:=b.frozen 1;have f2:=b.frozen 2;have f3:=b.frozen 3;have f4:=b.frozen 4;have f5:=b.frozen 5;simp at r0 r1 r2 r3 r4 r5;have aF:=ze am;have ax:=ze ai;have ah:=ze b;clear am ai b;try replace U:=ze (U.o.below af);try replace G:=ze (G.o.below af)))
 all_goals
  go_split_ands
  have l:=yx (x:=I) (A:=F) (k:=K) (c:=E) (s:=Z) (y:=N) (B:=Q) (k' :=L) (c' :=S) (t:=O) ah.o
  have aw:=yz (x:=I) (A:=F) (k:=K) (c:=E) (s:=Z) (y:=N) (B:=Q) (k' :=L) (c' :=S) (t:=O) aF.o ah.o
  have ay:=yz (x:=I) (A:=F) (k:=K) (c:=E) (s:=Z) (y:=N) (B:=Q) (k' :=L) (c' :=S) (t:=O) ax.o ah.o
  have aD:=zK (by assumption:Hid (Below w.heap.size w (World.rat wo (w.heap.size+1+1) I F K E Z N Q L S O)))
  have e0:=l.cell 0
  have e1:=l.cell 1
  have e2:=l.cell 2
  have e3:=l.cell 3
  have e4:=l.cell 4
  have e5:=l.cell 5
  simp only [World.rat] at e0 e1 e2 e3 e4 e5
  simp at e0 e1 e2 e3 e4 e5
  go_wp2
  refine bodyPost_ret (v:=.agg #[.int .i64 I,.slice F K E,.bool Z,.int .i64 N,.slice Q L S,.bool O]) (by simp [results,results123,go_sem,e0,e1,e2,e3,e4,e5]) rfl ?_
  exact ⟨_,rfl,⟨_,_,_,_,_,_,_,_,_,_,rfl,aw,ay⟩,aD⟩
theorem zd5 (va vb:Value) (x y:Rat) (w:World) (ha:yc w va x) (hb:yc w vb y) (hx:Z9 8388608 x) (hy:Z9 8388608 y) (hy0:y≠0):
 Calls Tryz.prog 40 #[va,vb] w (zdv w (x / y)):=by
 obtain ⟨r,C,k1,c1,s1,D,j,m,u,z,rfl,al,ak⟩:=ha
 obtain ⟨Y,T,k2,c2,s2,V,X,R,J,M,rfl,ab,aa⟩:=hb
 obtain ⟨ag,ad⟩:=hx
 obtain ⟨ac,ae⟩:=hy
 have aC:=ze (Nat.le_trans ag (show 8388608<=67108864 by omega))
 have aB:=ze (Nat.le_trans ad (show 8388608<=67108864 by omega))
 have au:=ze (Nat.le_trans ac (show 8388608<=67108864 by omega))
 have aq:=ze (Nat.le_trans ae (show 8388608<=67108864 by omega))
 have aG:=ze (Nat.le_trans (Ys ag ae) (show 8388608+8388608<=33554432 by omega))
 have aE:=ze (Nat.le_trans (Ys ad ac) (show 8388608+8388608<=33554432 by omega))
 have aA:=ze (Int.mul_ne_zero (show (x.den:Int)≠0 by have:=x.den_nz;omega) (show y.num≠0 from fun e=>hy0 (Rat.num_eq_zero.1 e)))
 rw [<- zqq _ _ hy0]
 clear ag ad ac ae hy0
 have av:=ze al
 have ap:=ze ak
 have ao:=ze ab
 have aH:=ze aa
 clear al ak ab aa
 have ar:Hid (XN ((((w.alloc (.cells #[.int .i64 r,.slice C k1 c1,.bool s1,.int .i64 D,.slice j m u,.bool z] 55)).alloc (.cells #[.int .i64 Y,.slice T k2 c2,.bool s2,.int .i64 V,.slice X R J,.bool M] 55)).alloc (.cells #[.int .i64 0,.slice none 0 0,.bool false,.int .i64 0,.slice none 0 0,.bool false] 55)).drew) (w.heap.size+1+1)):=by
  have h:=(Blk.new ((w.alloc (.cells #[.int .i64 r,.slice C k1 c1,.bool s1,.int .i64 D,.slice j m u,.bool z] 55)).alloc (.cells #[.int .i64 Y,.slice T k2 c2,.bool s2,.int .i64 V,.slice X R J,.bool M] 55)) 55 #[.int .i64 0,.slice none 0 0,.bool false,.int .i64 0,.slice none 0 0,.bool false]).drew
  simp only [World.size_alloc] at h
  exact ⟨_,_,_,_,_,_,_,_,_,_,h⟩
 have az:Hid (Below w.heap.size w ((((w.alloc (.cells #[.int .i64 r,.slice C k1 c1,.bool s1,.int .i64 D,.slice j m u,.bool z] 55)).alloc (.cells #[.int .i64 Y,.slice T k2 c2,.bool s2,.int .i64 V,.slice X R J,.bool M] 55)).alloc (.cells #[.int .i64 0,.slice none 0 0,.bool false,.int .i64 0,.slice none 0 0,.bool false] 55)).drew)):=ze (zo (ext (ext (zf w (.cells #[.int .i64 r,.slice C k1 c1,.bool s1,.int .i64 D,.slice j m u,.bool z] 55)) (zf _ (.cells #[.int .i64 Y,.slice T k2 c2,.bool s2,.int .i64 V,.slice X R J,.bool M] 55))) (zf _ (.cells #[.int .i64 0,.slice none 0 0,.bool false,.int .i64 0,.slice none 0 0,.bool false] 55))) 1)
 go_enter func40,ntmps40
 go_wp2_with fail
 go_region_held3 (fun w' =>w'.cell? ⟨w.heap.size,0,none⟩=some (.int .i64 r)/\w'.cell? ⟨w.heap.size,1,none⟩=some (.slice C k1 c1)/\w'.cell? ⟨w.heap.size,2,none⟩=some (.bool s1)/\w'.cell? ⟨w.heap.size,3,none⟩=some (.int .i64 D)/\w'.cell? ⟨w.heap.size,4,none⟩=some (.slice j m u)/\w'.cell? ⟨w.heap.size,5,none⟩=some (.bool z)/\w'.cell? ⟨w.heap.size+1,0,none⟩=some (.int .i64 Y)/\w'.cell? ⟨w.heap.size+1,1,none⟩=some (.slice T k2 c2)/\w'.cell? ⟨w.heap.size+1,2,none⟩=some (.bool s2)/\w'.cell? ⟨w.heap.size+1,3,none⟩=some (.int .i64 V)/\w'.cell? ⟨w.heap.size+1,4,none⟩=some (.slice X R J)/\w'.cell? ⟨w.heap.size+1,5,none⟩=some (.bool M)/\w.heap.size<w'.heap.size/\w.heap.size+1<w'.heap.size/\Hid (XN w' (w.heap.size+1+1))/\Hid (Below w.heap.size w w'))
  (first
    | with_reducible exact ⟨by go_keep,by go_keep,by go_keep,by go_keep,by go_keep,by go_keep,by go_keep,by go_keep,by go_keep,by go_keep,by go_keep,by go_keep,by first | (simp;done) | (simp;omega),by first | (simp;done) | (simp;omega),ar,az⟩
    | (go_split_ands;with_reducible exact ⟨zE (by omega) ‹_›,zE (by omega) ‹_›,zE (by omega) ‹_›,zE (by omega) ‹_›,zE (by omega) ‹_›,zE (by omega) ‹_›,zE (by omega) ‹_›,zE (by omega) ‹_›,zE (by omega) ‹_›,zE (by omega) ‹_›,zE (by omega) ‹_›,zE (by omega) ‹_›,ZK ‹_›,ZK ‹_›,ZS ‹_›,Zp (by omega) ‹_›⟩)
    | (go_split_ands;with_reducible exact ⟨zj ‹_› ‹_› ‹_›,zj ‹_› ‹_› ‹_›,zj ‹_› ‹_› ‹_›,zj ‹_› ‹_› ‹_›,zj ‹_› ‹_› ‹_›,zj ‹_› ‹_› ‹_›,zj ‹_› ‹_› ‹_›,zj ‹_› ‹_› ‹_›,zj ‹_› ‹_› ‹_›,zj ‹_› ‹_› ‹_›,zj ‹_› ‹_› ‹_›,zj ‹_› ‹_› ‹_›,zG ‹_› ‹_›,zG ‹_› ‹_›,Ym ‹_› ‹_›,zr ‹_› ‹_›⟩)
    | go_keep)
  (first
    | (go_at_call_of 55 (Value.agg #[.int .i64 r,.slice C k1 c1,.bool s1]);refine (vq _ _ x.num y.den _ (av.o.below (zK (by go_split_ands;assumption))) (aH.o.below (zK (by go_split_ands;assumption))) aC.o aq.o).mono ?_;rintro e w1 ⟨v1,rfl,aj,ab⟩;have U:=ze aj;clear aj;try replace G:=ze (G.o.below ab))
    | (go_at_call_of 55 (Value.agg #[.int .i64 D,.slice j m u,.bool z]);refine (vq _ _ x.den y.num _ (ap.o.below (zK (by go_split_ands;assumption))) (ao.o.below (zK (by go_split_ands;assumption))) aB.o au.o).mono ?_;rintro e w2 ⟨v2,rfl,an,aa⟩;have G:=ze an;clear an;try replace U:=ze (U.o.below aa))
    | (go_at_call 54;refine (Yp _ _ (x.num*y.den) ((x.den:Int)*y.num) _ U.o G.o aA.o aG.o aE.o).mono ?_;rintro e wo ⟨vo,rfl,⟨I,F,K,E,Z,N,Q,L,S,O,rfl,am,ai⟩,af⟩;obtain ⟨xr,Ar,kr,cr,sr,yr,Br,aI,aJ,tr,b⟩:=(Ym (g:=w.heap.size+1+1) af (by go_split_ands;assumption)).out;have r0:=b.cell 0;have r1:=b.cell 1;have r2:=b.cell 2;have r3:=b.cell 3;have r4:=b.cell 4;have r5:=b.cell 5;have f0:=b.frozen 0;have f1:=b.frozen 1;have f2:=b.frozen 2;have f3:=b.frozen 3;have f4:=b.frozen 4;have f5:=b.frozen 5;simp at r0 r1 r2 r3 r4 r5;have aF:=ze am;have ax:=ze ai;have ah:=ze b;clear am ai b;try replace U:=ze (U.o.below af);try replace G:=ze (G.o.below af)))
 all_goals
  go_split_ands
  have l:=yx (x:=I) (A:=F) (k:=K) (c:=E) (s:=Z) (y:=N) (B:=Q) (k' :=L) (c' :=S) (t:=O) ah.o
  have aw:=yz (x:=I) (A:=F) (k:=K) (c:=E) (s:=Z) (y:=N) (B:=Q) (k' :=L) (c' :=S) (t:=O) aF.o ah.o
  have ay:=yz (x:=I) (A:=F) (k:=K) (c:=E) (s:=Z) (y:=N) (B:=Q) (k' :=L) (c' :=S) (t:=O) ax.o ah.o
  have aD:=zK (by assumption:Hid (Below w.heap.size w (World.rat wo (w.heap.size+1+1) I F K E Z N Q L S O)))
  have e0:=l.cell 0
  have e1:=l.cell 1
  have e2:=l.cell 2
  have e3:=l.cell 3
  have e4:=l.cell 4
  have e5:=l.cell 5
  simp only [World.rat] at e0 e1 e2 e3 e4 e5
  simp at e0 e1 e2 e3 e4 e5
  go_wp2
  refine bodyPost_ret (v:=.agg #[.int .i64 I,.slice F K E,.bool Z,.int .i64 N,.slice Q L S,.bool O]) (by simp [results,results40,go_sem,e0,e1,e2,e3,e4,e5]) rfl ?_
  exact ⟨_,rfl,⟨_,_,_,_,_,_,_,_,_,_,rfl,aw,ay⟩,aD⟩
theorem YA (va vb:Value) (x y:Rat) (w:World) (ha:yc w va x) (hb:yc w vb y) (hx:Z9 8388608 x) (hy:Z9 8388608 y):
 Calls Tryz.prog 24 #[va,vb] w (zdv w (x+y)):=by
 obtain ⟨E,K,k1,c1,s1,M,u,D,F,G,rfl,aq,ap⟩:=ha
 obtain ⟨L,I,k2,c2,s2,y2,B2,Z,R,U,rfl,J,C⟩:=hb
 obtain ⟨ah,ab⟩:=hx
 obtain ⟨ad,ac⟩:=hy
 have aJ:=ze (Nat.le_trans ah (show 8388608<=67108864 by omega))
 have av:=ze (Nat.le_trans ab (show 8388608<=67108864 by omega))
 have aA:=ze (Nat.le_trans ad (show 8388608<=67108864 by omega))
 have am:=ze (Nat.le_trans ac (show 8388608<=67108864 by omega))
 have aj:=Ys ah ac
 have ag:=Ys ad ab
 have aN:=ze (Nat.le_trans (zla aj ag) (show 8388608+8388608+1<=33554432 by omega))
 have aL:=ze (Nat.le_trans (Ys ab ac) (show 8388608+8388608<=33554432 by omega))
 have aD:=ze (Nat.le_trans aj (show 8388608+8388608<=67108864 by omega))
 have aE:=ze (Nat.le_trans ag (show 8388608+8388608<=67108864 by omega))
 have aI:=ze (Int.mul_ne_zero (show (x.den:Int)≠0 by have:=x.den_nz;omega) (show (y.den:Int)≠0 by have:=y.den_nz;omega))
 rw [<- zt9]
 clear ah ab ad ac aj ag
 have aB:=ze aq
 have al:=ze ap
 have ay:=ze J
 have ax:=ze C
 clear aq ap J C
 have az:Hid (XN ((((w.alloc (.cells #[.int .i64 E,.slice K k1 c1,.bool s1,.int .i64 M,.slice u D F,.bool G] 55)).alloc (.cells #[.int .i64 L,.slice I k2 c2,.bool s2,.int .i64 y2,.slice B2 Z R,.bool U] 55)).alloc (.cells #[.int .i64 0,.slice none 0 0,.bool false,.int .i64 0,.slice none 0 0,.bool false] 55)).drew) (w.heap.size+1+1)):=by
  have h:=(Blk.new ((w.alloc (.cells #[.int .i64 E,.slice K k1 c1,.bool s1,.int .i64 M,.slice u D F,.bool G] 55)).alloc (.cells #[.int .i64 L,.slice I k2 c2,.bool s2,.int .i64 y2,.slice B2 Z R,.bool U] 55)) 55 #[.int .i64 0,.slice none 0 0,.bool false,.int .i64 0,.slice none 0 0,.bool false]).drew
  simp only [World.size_alloc] at h
  exact ⟨_,_,_,_,_,_,_,_,_,_,h⟩
 have aH:Hid (Below w.heap.size w ((((w.alloc (.cells #[.int .i64 E,.slice K k1 c1,.bool s1,.int .i64 M,.slice u D F,.bool G] 55)).alloc (.cells #[.int .i64 L,.slice I k2 c2,.bool s2,.int .i64 y2,.slice B2 Z R,.bool U] 55)).alloc (.cells #[.int .i64 0,.slice none 0 0,.bool false,.int .i64 0,.slice none 0 0,.bool false] 55)).drew)):=ze (zo (ext (ext (zf w (.cells #[.int .i64 E,.slice K k1 c1,.bool s1,.int .i64 M,.slice u D F,.bool G] 55)) (zf _ (.cells #[.int .i64 L,.slice I k2 c2,.bool s2,.int .i64 y2,.slice B2 Z R,.bool U] 55))) (zf _ (.cells #[.int .i64 0,.slice none 0 0,.bool false,.int .i64 0,.slice none 0 0,.bool false] 55))) 1)
 go_enter func24,ntmps24
 go_wp2_with fail
 go_region_held3 (fun w' =>w'.cell? ⟨w.heap.size,0,none⟩=some (.int .i64 E)/\w'.cell? ⟨w.heap.size,1,none⟩=some (.slice K k1 c1)/\w'.cell? ⟨w.heap.size,2,none⟩=some (.bool s1)/\w'.cell? ⟨w.heap.size,3,none⟩=some (.int .i64 M)/\w'.cell? ⟨w.heap.size,4,none⟩=some (.slice u D F)/\w'.cell? ⟨w.heap.size,5,none⟩=some (.bool G)/\w'.cell? ⟨w.heap.size+1,0,none⟩=some (.int .i64 L)/\w'.cell? ⟨w.heap.size+1,1,none⟩=some (.slice I k2 c2)/\w'.cell? ⟨w.heap.size+1,2,none⟩=some (.bool s2)/\w'.cell? ⟨w.heap.size+1,3,none⟩=some (.int .i64 y2)/\w'.cell? ⟨w.heap.size+1,4,none⟩=some (.slice B2 Z R)/\w'.cell? ⟨w.heap.size+1,5,none⟩=some (.bool U)/\w.heap.size<w'.heap.size/\w.heap.size+1<w'.heap.size/\Hid (XN w' (w.heap.size+1+1))/\Hid (Below w.heap.size w w'))
  (first
    | with_reducible exact ⟨by go_keep,by go_keep,by go_keep,by go_keep,by go_keep,by go_keep,by go_keep,by go_keep,by go_keep,by go_keep,by go_keep,by go_keep,by first | (simp;done) | (simp;omega),by first | (simp;done) | (simp;omega),az,aH⟩
    | (go_split_ands;with_reducible exact ⟨zE (by omega) ‹_›,zE (by omega) ‹_›,zE (by omega) ‹_›,zE (by omega) ‹_›,zE (by omega) ‹_›,zE (by omega) ‹_›,zE (by omega) ‹_›,zE (by omega) ‹_›,zE (by omega) ‹_›,zE (by omega) ‹_›,zE (by omega) ‹_›,zE (by omega) ‹_›,ZK ‹_›,ZK ‹_›,ZS ‹_›,Zp (by omega) ‹_›⟩)
    | (go_split_ands;with_reducible exact ⟨zj ‹_› ‹_› ‹_›,zj ‹_› ‹_› ‹_›,zj ‹_› ‹_› ‹_›,zj ‹_› ‹_› ‹_›,zj ‹_› ‹_› ‹_›,zj ‹_› ‹_› ‹_›,zj ‹_› ‹_› ‹_›,zj ‹_› ‹_› ‹_›,zj ‹_› ‹_› ‹_›,zj ‹_› ‹_› ‹_›,zj ‹_› ‹_› ‹_›,zj ‹_› ‹_› ‹_›,zG ‹_› ‹_›,zG ‹_› ‹_›,Ym ‹_› ‹_›,zr ‹_› ‹_›⟩)
    | go_keep)
  (first
    | (go_at_call_of 55 (Value.agg #[.int .i64 E,.slice K k1 c1,.bool s1]);refine (vq _ _ x.num y.den _ (aB.o.below (zK (by go_split_ands;assumption))) (ax.o.below (zK (by go_split_ands;assumption))) aJ.o am.o).mono ?_;rintro e w1 ⟨v1,rfl,ao,J⟩;have l:=ze ao;clear ao;try replace j:=ze (j.o.below J);try replace r:=ze (r.o.below J);try replace m:=ze (m.o.below J))
    | (go_at_call_of 55 (Value.agg #[.int .i64 L,.slice I k2 c2,.bool s2]);refine (vq _ _ y.num x.den _ (ay.o.below (zK (by go_split_ands;assumption))) (al.o.below (zK (by go_split_ands;assumption))) aA.o av.o).mono ?_;rintro e w2 ⟨v2,rfl,aw,C⟩;have j:=ze aw;clear aw;try replace l:=ze (l.o.below C);try replace r:=ze (r.o.below C);try replace m:=ze (m.o.below C))
    | (go_at_call_of 55 (Value.agg #[.int .i64 M,.slice u D F,.bool G]);refine (vq _ _ x.den y.den _ (al.o.below (zK (by go_split_ands;assumption))) (ax.o.below (zK (by go_split_ands;assumption))) av.o am.o).mono ?_;rintro e w3 ⟨v3,rfl,ar,af⟩;have r:=ze ar;clear ar;try replace l:=ze (l.o.below af);try replace j:=ze (j.o.below af);try replace m:=ze (m.o.below af))
    | (go_at_call 56;refine (zgn _ _ (x.num*y.den) (y.num*x.den) _ l.o j.o aD.o aE.o).mono ?_;rintro e w4 ⟨v4,rfl,ak,ae⟩;have m:=ze ak;clear ak;try replace l:=ze (l.o.below ae);try replace j:=ze (j.o.below ae);try replace r:=ze (r.o.below ae))
    | (go_at_call 54;refine (Yp _ _ (x.num*y.den+y.num*x.den) ((x.den:Int)*y.den) _ m.o r.o aI.o aN.o aL.o).mono ?_;rintro e wo ⟨vo,rfl,⟨Q,O,S,N,n5,V,Y,T,c6,X,rfl,au,an⟩,aa⟩;obtain ⟨xr,Ar,kr,cr,sr,yr,Br,aO,aP,tr,b⟩:=(Ym (g:=w.heap.size+1+1) aa (by go_split_ands;assumption)).out;have r0:=b.cell 0;have r1:=b.cell 1;have r2:=b.cell 2;have r3:=b.cell 3;have r4:=b.cell 4;have r5:=b.cell 5;have f0:=b.frozen 0;have f1:=b.frozen 1;have f2:=b.frozen 2;have f3:=b.frozen 3;have f4:=b.frozen 4;have f5:=b.frozen 5;simp at r0 r1 r2 r3 r4 r5;have aM:=ze au;have aF:=ze an;have ai:=ze b;clear au an b;try replace l:=ze (l.o.below aa);try replace j:=ze (j.o.below aa);try replace r:=ze (r.o.below aa);try replace m:=ze (m.o.below aa)))
 all_goals
  go_split_ands
  have z:=yx (x:=Q) (A:=O) (k:=S) (c:=N) (s:=n5) (y:=V) (B:=Y) (k' :=T) (c' :=c6) (t:=X) ai.o
  have aC:=yz (x:=Q) (A:=O) (k:=S) (c:=N) (s:=n5) (y:=V) (B:=Y) (k' :=T) (c' :=c6) (t:=X) aM.o ai.o
  have aG:=yz (x:=Q) (A:=O) (k:=S) (c:=N) (s:=n5) (y:=V) (B:=Y) (k' :=T) (c' :=c6) (t:=X) aF.o ai.o
  have aK:=zK (by assumption:Hid (Below w.heap.size w (World.rat wo (w.heap.size+1+1) Q O S N n5 V Y T c6 X)))
  have e0:=z.cell 0
  have e1:=z.cell 1
  have e2:=z.cell 2
  have e3:=z.cell 3
  have e4:=z.cell 4
  have e5:=z.cell 5
  simp only [World.rat] at e0 e1 e2 e3 e4 e5
  simp at e0 e1 e2 e3 e4 e5
  go_wp2
  refine bodyPost_ret (v:=.agg #[.int .i64 Q,.slice O S N,.bool n5,.int .i64 V,.slice Y T c6,.bool X]) (by simp [results,results24,go_sem,e0,e1,e2,e3,e4,e5]) rfl ?_
  exact ⟨_,rfl,⟨_,_,_,_,_,_,_,_,_,_,rfl,aC,aG⟩,aK⟩
def ze1 (x y:Rat):Int:=if x<y then -1 else if y<x then 1 else 0
theorem zvl (x y:Rat):zP (x.num*y.den) (y.num*x.den)=ze1 x y:=by
 unfold zP ze1
 have e:=Rat.lt_iff x y
 have j:=Rat.lt_iff y x
 by_cases a:x<y
 . rw [if_pos (e.1 a),if_pos a]
 rw [if_neg (fun h=>a (e.2 h)),if_neg a]
 by_cases b:y<x
 . rw [if_pos (j.1 b),if_pos b]
 rw [if_neg (fun h=>b (j.2 h)),if_neg b]
theorem zuz (x:Rat):zP x.num 0=ze1 x 0:=by
 have:=zvl x 0
 simp at this
 rw [<- this]
theorem Yg (va:Value) (x:Rat) (w:World) (ha:yc w va x):
 Calls Tryz.prog 14 #[va] w (zfq w (.int .i64 (ze1 x 0))):=by
 obtain ⟨l,m,k1,c1,s1,z,u,r,E,C,rfl,b,y⟩:=ha
 have j:=ze (zf w (.cells #[.int .i64 l,.slice m k1 c1,.bool s1,.int .i64 z,.slice u r E,.bool C] 55))
 have D:=ze (b.below j.o)
 rw [<- zuz]
 clear b y
 go_enter func14,ntmps14
 go_wp2_with fail
 refine (X4 _ x.num _ D.o).mono ?_
 rintro e w1 ⟨rfl,B⟩
 go_wp2
 go_ret
 exact ⟨rfl,ext j.o B⟩
theorem zef (va:Value) (x:Rat) (w:World) (ha:yc w va x):
 Calls Tryz.prog 38 #[va] w (zdv w (-x)):=by
 obtain ⟨C,G,k1,c1,s1,r,j,m,l,u,rfl,U,V⟩:=ha
 have ac:=ze U
 have aa:=ze V
 clear U V
 have X:Hid (XN (((w.alloc (.cells #[.int .i64 C,.slice G k1 c1,.bool s1,.int .i64 r,.slice j m l,.bool u] 55)).alloc (.cells #[.int .i64 0,.slice none 0 0,.bool false,.int .i64 0,.slice none 0 0,.bool false] 55)).drew) (w.heap.size+1)):=by
  have h:=(Blk.new (w.alloc (.cells #[.int .i64 C,.slice G k1 c1,.bool s1,.int .i64 r,.slice j m l,.bool u] 55)) 55 #[.int .i64 0,.slice none 0 0,.bool false,.int .i64 0,.slice none 0 0,.bool false]).drew
  simp only [World.size_alloc] at h
  exact ⟨_,_,_,_,_,_,_,_,_,_,h⟩
 have ae:Hid (Below w.heap.size w (((w.alloc (.cells #[.int .i64 C,.slice G k1 c1,.bool s1,.int .i64 r,.slice j m l,.bool u] 55)).alloc (.cells #[.int .i64 0,.slice none 0 0,.bool false,.int .i64 0,.slice none 0 0,.bool false] 55)).drew)):=ze (zo (ext (zf w (.cells #[.int .i64 C,.slice G k1 c1,.bool s1,.int .i64 r,.slice j m l,.bool u] 55)) (zf _ (.cells #[.int .i64 0,.slice none 0 0,.bool false,.int .i64 0,.slice none 0 0,.bool false] 55))) 1)
 go_enter func38,ntmps38
 go_wp2_with fail
 go_region_held3 (fun w' =>w'.cell? ⟨w.heap.size,0,none⟩=some (.int .i64 C)/\w'.cell? ⟨w.heap.size,1,none⟩=some (.slice G k1 c1)/\w'.cell? ⟨w.heap.size,2,none⟩=some (.bool s1)/\w'.cell? ⟨w.heap.size,3,none⟩=some (.int .i64 r)/\w'.cell? ⟨w.heap.size,4,none⟩=some (.slice j m l)/\w'.cell? ⟨w.heap.size,5,none⟩=some (.bool u)/\w.heap.size<w'.heap.size/\Hid (XN w' (w.heap.size+1))/\Hid (Below w.heap.size w w'))
  (first
    | with_reducible exact ⟨by go_keep,by go_keep,by go_keep,by go_keep,by go_keep,by go_keep,by first | (simp;done) | (simp;omega),X,ae⟩
    | (go_split_ands;with_reducible exact ⟨zE (by omega) ‹_›,zE (by omega) ‹_›,zE (by omega) ‹_›,zE (by omega) ‹_›,zE (by omega) ‹_›,zE (by omega) ‹_›,ZK ‹_›,ZS ‹_›,Zp (by omega) ‹_›⟩)
    | (go_split_ands;with_reducible exact ⟨zj ‹_› ‹_› ‹_›,zj ‹_› ‹_› ‹_›,zj ‹_› ‹_› ‹_›,zj ‹_› ‹_› ‹_›,zj ‹_› ‹_› ‹_›,zj ‹_› ‹_› ‹_›,zG ‹_› ‹_›,Ym ‹_› ‹_›,zr ‹_› ‹_›⟩)
    | go_keep)
  (first
    | (go_at_call 72;refine (yY _ x.num _ (ac.o.below (zK (by go_split_ands;assumption)))).mono ?_;rintro e wo ⟨vo,rfl,R,T⟩;obtain ⟨I,F,E,D,J,rfl,_,_,_⟩:=R.form;have ad:=ze (ext (zK (by go_split_ands;assumption)) T);obtain ⟨xr,Ar,kr,cr,sr,yr,Br,ag,ah,tr,b⟩:=(Ym (g:=w.heap.size+1) T (by go_split_ands;assumption)).out;have r0:=b.cell 0;have r1:=b.cell 1;have r2:=b.cell 2;have r3:=b.cell 3;have r4:=b.cell 4;have r5:=b.cell 5;have f0:=b.frozen 0;have f1:=b.frozen 1;have f2:=b.frozen 2;have f3:=b.frozen 3;have f4:=b.frozen 4;have f5:=b.frozen 5;simp at r0 r1 r2 r3 r4 r5;have Z:=ze R;have S:=ze b;clear R b))
 all_goals
  go_split_ands
  have z:=yx (x:=I) (A:=F) (k:=E) (c:=D) (s:=J) (y:=r) (B:=j) (k' :=m) (c' :=l) (t:=u) S.o
  have af:=yz (x:=I) (A:=F) (k:=E) (c:=D) (s:=J) (y:=r) (B:=j) (k' :=m) (c' :=l) (t:=u) Z.o S.o
  have ab:=yz (x:=I) (A:=F) (k:=E) (c:=D) (s:=J) (y:=r) (B:=j) (k' :=m) (c' :=l) (t:=u) (aa.o.below ad.o) S.o
  have Y:=zK (by assumption:Hid (Below w.heap.size w (World.rat wo (w.heap.size+1) I F E D J r j m l u)))
  have L:=z.cell 0
  have M:=z.cell 1
  have K:=z.cell 2
  have O:=z.cell 3
  have N:=z.cell 4
  have Q:=z.cell 5
  simp only [World.rat] at L M K O N Q
  simp at L M K O N Q
  go_wp2
  refine bodyPost_ret (v:=.agg #[.int .i64 I,.slice F E D,.bool J,.int .i64 r,.slice j m l,.bool u]) (by simp [results,results38,go_sem,L,M,K,O,N,Q]) rfl ?_
  exact ⟨_,rfl,⟨_,_,_,_,_,_,_,_,_,_,rfl,af,ab⟩,Y⟩
end Go.Proofs.YthbmhkiphmcogaaGreatDoor
