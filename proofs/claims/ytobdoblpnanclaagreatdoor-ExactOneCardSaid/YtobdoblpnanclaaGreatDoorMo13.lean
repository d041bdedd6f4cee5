/- Parts of the proof. -/
import Derived.Deep.DrawnRows
import Derived.Test.YtobdoblpnanclaaGreatDoorMo12
set_option linter.all false
set_option maxRecDepth 100000
set_option maxHeartbeats 32000000
namespace Go.Proofs.YtobdoblpnanclaaGreatDoor
open Proofs.Tryz Go.RowKit Go.Deep
attribute [local go_sem ↓] Go.wp_at_zero Go.wp_at_succ
theorem YL (q:Rat):q=Rat.divInt q.num q.den:=(Rat.num_divInt_den q).symm
theorem zqp (q:Rat):((q.den:Int):Rat)≠0:=by
 have:=q.den_nz
 exact_mod_cast this
theorem zuk (x y:Rat):Rat.divInt (x.num*y.den+y.num*x.den) ((x.den:Int)*y.den)=x+y:=by
 have b:=zqp x
 have e:=zqp y
 conv=>rhs;rw [YL x,YL y]
 simp only [Rat.divInt_eq_div]
 push_cast
 push_cast at b e
 grind
theorem ztv (x y:Rat):Rat.divInt (x.num*y.num) ((x.den:Int)*y.den)=x*y:=by
 have b:=zqp x
 have e:=zqp y
 conv=>rhs;rw [YL x,YL y]
 simp only [Rat.divInt_eq_div]
 push_cast
 push_cast at b e
 grind
def xJ (M:Nat) (q:Rat):Prop:=len 4294967296 q.num.natAbs<=M/\len 4294967296 (q.den:Int).natAbs<=M
theorem Z8 {a b:Int} {M K:Nat} (h1:len 4294967296 a.natAbs<=M) (h2:len 4294967296 b.natAbs<=K):len 4294967296 (a*b).natAbs<=M+K:=by
 rw [Int.natAbs_mul]
 exact uC (zok (by omega) _ _) (by omega)
theorem zku {a b:Int} {M:Nat} (h1:len 4294967296 a.natAbs<=M) (h2:len 4294967296 b.natAbs<=M):len 4294967296 (a+b).natAbs<=M+1:=by
 have e:(a+b).natAbs<=a.natAbs+b.natAbs:=Int.natAbs_add_le a b
 refine uC (Yk (by omega) e) (uC (zub (by omega) _ _) (by omega))
theorem zF {W:World} {g g' i:Nat} {x y:Int} {A B:Option Addr} {k c k' c' :Nat} {s t:Bool} {v:Value} (hne:g≠g') (h:W.cell? ⟨g,i,none⟩=some v):(World.rat W g' x A k c s y B k' c' t).cell? ⟨g,i,none⟩=some v:=by
 rw [<- h]
 simp only [World.rat]
 rw [World.cell?_setCell_other,World.cell?_setCell_other,World.cell?_setCell_other,World.cell?_setCell_other,World.cell?_setCell_other,World.cell?_setCell_other]
 all_goals (intro e;injection e with e;exact hne e.symm)
theorem ZG {W:World} {g' n:Nat} {x y:Int} {A B:Option Addr} {k c k' c' :Nat} {s t:Bool} (h:n<W.heap.size):n<(World.rat W g' x A k c s y B k' c' t).heap.size:=by
 simp only [World.rat,World.setCell,Array.size_modify]
 exact h
def Xu (w:World) (g:Nat):Prop:=∃ x A k c s y B k' c' t,Blk w g 60 #[.int .i64 x,.slice A k c,.bool s,.int .i64 y,.slice B k' c',.bool t]
theorem Yt {w w' :World} {g:Nat} (hb:Below w.heap.size w w') (h:Hid (Xu w g)):Hid (Xu w' g):=by
 obtain ⟨x,A,k,c,s,y,B,k',c',t,h⟩:=h.out
 exact ⟨x,A,k,c,s,y,B,k',c',t,h.below hb h.lt⟩
theorem ZQ {w:World} {g:Nat} {x y:Int} {A B:Option Addr} {k c k' c' :Nat} {s t:Bool} (h:Hid (Xu w g)):Hid (Xu (World.rat w g x A k c s y B k' c' t) g):=by
 obtain ⟨x,A,k,c,s,y,B,k',c',t,h⟩:=h.out
 exact ⟨_,_,_,_,_,_,_,_,_,_,yj h⟩
theorem Zb {w0 w:World} {g:Nat} {x y:Int} {A B:Option Addr} {k c k' c' :Nat} {s t:Bool} (hg:w0.heap.size<=g) (h:Hid (Below w0.heap.size w0 w)):Hid (Below w0.heap.size w0 (World.rat w g x A k c s y B k' c' t)):=ye h.out hg
theorem YX (va vb:Value) (x y:Rat) (w:World) (ha:zV w va x) (hb:zV w vb y) (hx:xJ 8388608 x) (hy:xJ 8388608 y):
 Calls prog 55 #[va,vb] w (zeb w (x*y)):=by
 obtain ⟨D,j,E,r,C,m,l,u,F,z,rfl,aj,ao⟩:=ha
 obtain ⟨J,A2,K,I,X,y2,T,O,M,U,rfl,ac,ab⟩:=hb
 obtain ⟨ai,ad⟩:=hx
 obtain ⟨ae,ag⟩:=hy
 have ay:=ze (uC ai (show 8388608<=67108864 by omega))
 have aF:=ze (uC ad (show 8388608<=67108864 by omega))
 have ax:=ze (uC ae (show 8388608<=67108864 by omega))
 have aE:=ze (uC ag (show 8388608<=67108864 by omega))
 have av:=ze (uC (Z8 ai ae) (show 8388608+8388608<=33554432 by omega))
 have aA:=ze (uC (Z8 ad ag) (show 8388608+8388608<=33554432 by omega))
 have aC:=ze (Int.mul_ne_zero (show (x.den:Int)≠0 by have:=x.den_nz;omega) (show (y.den:Int)≠0 by have:=y.den_nz;omega))
 rw [<- ztv]
 clear ai ad ae ag
 obtain ⟨au,aG,aB,ar⟩:=hz4 aj ao ac ab
 clear aj ao ac ab
 have aq:Hid (Xu ((((w.alloc (.cells #[.int .i64 D,.slice j E r,.bool C,.int .i64 m,.slice l u F,.bool z] 60)).alloc (.cells #[.int .i64 J,.slice A2 K I,.bool X,.int .i64 y2,.slice T O M,.bool U] 60)).alloc (.cells #[.int .i64 0,.slice none 0 0,.bool false,.int .i64 0,.slice none 0 0,.bool false] 60)).drew) (w.heap.size+1+1)):=by
  have h:=(Blk.new ((w.alloc (.cells #[.int .i64 D,.slice j E r,.bool C,.int .i64 m,.slice l u F,.bool z] 60)).alloc (.cells #[.int .i64 J,.slice A2 K I,.bool X,.int .i64 y2,.slice T O M,.bool U] 60)) 60 #[.int .i64 0,.slice none 0 0,.bool false,.int .i64 0,.slice none 0 0,.bool false]).drew
  simp only [World.size_alloc] at h
  exact ⟨_,_,_,_,_,_,_,_,_,_,h⟩
 have aD:Hid (Below w.heap.size w ((((w.alloc (.cells #[.int .i64 D,.slice j E r,.bool C,.int .i64 m,.slice l u F,.bool z] 60)).alloc (.cells #[.int .i64 J,.slice A2 K I,.bool X,.int .i64 y2,.slice T O M,.bool U] 60)).alloc (.cells #[.int .i64 0,.slice none 0 0,.bool false,.int .i64 0,.slice none 0 0,.bool false] 60)).drew)):=ze (zo (ext (ext (zf w (.cells #[.int .i64 D,.slice j E r,.bool C,.int .i64 m,.slice l u F,.bool z] 60)) (zf _ (.cells #[.int .i64 J,.slice A2 K I,.bool X,.int .i64 y2,.slice T O M,.bool U] 60))) (zf _ (.cells #[.int .i64 0,.slice none 0 0,.bool false,.int .i64 0,.slice none 0 0,.bool false] 60))) 1)
 go_in
 go_wp2_with fail
 go_region_held3 (fun w' =>w'.cell? ⟨w.heap.size,0,none⟩=some (.int .i64 D)/\w'.cell? ⟨w.heap.size,1,none⟩=some (.slice j E r)/\w'.cell? ⟨w.heap.size,2,none⟩=some (.bool C)/\w'.cell? ⟨w.heap.size,3,none⟩=some (.int .i64 m)/\w'.cell? ⟨w.heap.size,4,none⟩=some (.slice l u F)/\w'.cell? ⟨w.heap.size,5,none⟩=some (.bool z)/\w'.cell? ⟨w.heap.size+1,0,none⟩=some (.int .i64 J)/\w'.cell? ⟨w.heap.size+1,1,none⟩=some (.slice A2 K I)/\w'.cell? ⟨w.heap.size+1,2,none⟩=some (.bool X)/\w'.cell? ⟨w.heap.size+1,3,none⟩=some (.int .i64 y2)/\w'.cell? ⟨w.heap.size+1,4,none⟩=some (.slice T O M)/\w'.cell? ⟨w.heap.size+1,5,none⟩=some (.bool U)/\w.heap.size<w'.heap.size/\w.heap.size+1<w'.heap.size/\Hid (Xu w' (w.heap.size+1+1))/\Hid (Below w.heap.size w w'))
  (first
    | with_reducible exact ⟨by go_keep,by go_keep,by go_keep,by go_keep,by go_keep,by go_keep,by go_keep,by go_keep,by go_keep,by go_keep,by go_keep,by go_keep,by first | (simp;done) | (simp;omega),by first | (simp;done) | (simp;omega),aq,aD⟩
    | (go_split_ands;with_reducible exact ⟨zF (by omega) ‹_›,zF (by omega) ‹_›,zF (by omega) ‹_›,zF (by omega) ‹_›,zF (by omega) ‹_›,zF (by omega) ‹_›,zF (by omega) ‹_›,zF (by omega) ‹_›,zF (by omega) ‹_›,zF (by omega) ‹_›,zF (by omega) ‹_›,zF (by omega) ‹_›,ZG ‹_›,ZG ‹_›,ZQ ‹_›,Zb (by omega) ‹_›⟩)
    | (go_split_ands;with_reducible exact ⟨zi ‹_› ‹_› ‹_›,zi ‹_› ‹_› ‹_›,zi ‹_› ‹_› ‹_›,zi ‹_› ‹_› ‹_›,zi ‹_› ‹_› ‹_›,zi ‹_› ‹_› ‹_›,zi ‹_› ‹_› ‹_›,zi ‹_› ‹_› ‹_›,zi ‹_› ‹_› ‹_›,zi ‹_› ‹_› ‹_›,zi ‹_› ‹_› ‹_›,zi ‹_› ‹_› ‹_›,zY ‹_› ‹_›,zY ‹_› ‹_›,Yt ‹_› ‹_›,zp ‹_› ‹_›⟩)
    | go_keep)
  (first
    | (go_at_call_of 40 (Value.agg #[.int .i64 D,.slice j E r,.bool C]);refine (xB _ _ x.num y.num _ (au.o.below (zW (by go_split_ands;assumption))) (aB.o.below (zW (by go_split_ands;assumption))) ay.o ax.o).mono ?_;rintro e w1 ⟨v1,rfl,ak,ac⟩;have aa:=ze ak;clear ak;try replace V:=ze (V.o.below ac))
    | (go_at_call_of 40 (Value.agg #[.int .i64 m,.slice l u F,.bool z]);refine (xB _ _ x.den y.den _ (aG.o.below (zW (by go_split_ands;assumption))) (ar.o.below (zW (by go_split_ands;assumption))) aF.o aE.o).mono ?_;rintro e w2 ⟨v2,rfl,am,ab⟩;have V:=ze am;clear am;try replace aa:=ze (aa.o.below ab))
    | (go_at_call 39;refine (Yd _ _ (x.num*y.num) ((x.den:Int)*y.den) _ aa.o V.o aC.o av.o aA.o).mono ?_;rintro e wo ⟨vo,rfl,⟨Q,N,S,c5,L,x6,Y,k6,R,Z,rfl,an,al⟩,af⟩;obtain ⟨xr,Ar,kr,cr,sr,yr,Br,aK,aJ,tr,b⟩:=(Yt (g:=w.heap.size+1+1) af (by go_split_ands;assumption)).out;have r0:=b.cell 0;have r1:=b.cell 1;have r2:=b.cell 2;have r3:=b.cell 3;have r4:=b.cell 4;have r5:=b.cell 5;have f0:=b.frozen 0;have f1:=b.frozen 1;have f2:=b.frozen 2;have f3:=b.frozen 3;have f4:=b.frozen 4;have f5:=b.frozen 5;simp at r0 r1 r2 r3 r4 r5;have ap:=ze an;have aH:=ze al;have ah:=ze b;clear an al b;try replace aa:=ze (aa.o.below af);try replace V:=ze (V.o.below af)))
 all_goals
  go_split_ands
  have G:=yj (x:=Q) (A:=N) (k:=S) (c:=c5) (s:=L) (y:=x6) (B:=Y) (k' :=k6) (c' :=R) (t:=Z) ah.o
  have aI:=yl (x:=Q) (A:=N) (k:=S) (c:=c5) (s:=L) (y:=x6) (B:=Y) (k' :=k6) (c' :=R) (t:=Z) ap.o ah.o
  have aw:=yl (x:=Q) (A:=N) (k:=S) (c:=c5) (s:=L) (y:=x6) (B:=Y) (k' :=k6) (c' :=R) (t:=Z) aH.o ah.o
  have az:=zW (by assumption:Hid (Below w.heap.size w (World.rat wo (w.heap.size+1+1) Q N S c5 L x6 Y k6 R Z)))
  have e0:=G.cell 0;have e1:=G.cell 1;have e2:=G.cell 2;have e3:=G.cell 3;have e4:=G.cell 4;have e5:=G.cell 5
  simp only [World.rat] at e0 e1 e2 e3 e4 e5
  simp at e0 e1 e2 e3 e4 e5
  go_wp2
  refine bodyPost_ret (v:=.agg #[.int .i64 Q,.slice N S c5,.bool L,.int .i64 x6,.slice Y k6 R,.bool Z]) (by simp [results,results55,go_sem,e0,e1,e2,e3,e4,e5]) rfl ?_
  exact ⟨_,rfl,⟨_,_,_,_,_,_,_,_,_,_,rfl,aI,aw⟩,az⟩
theorem vM (va vb:Value) (x y:Rat) (w:World) (ha:zV w va x) (hb:zV w vb y) (hx:xJ 8388608 x) (hy:xJ 8388608 y):
 Calls prog 26 #[va,vb] w (zeb w (x+y)):=by
 obtain ⟨M,u,N,G,L,F,C,I,Q,K,rfl,aj,aw⟩:=ha
 obtain ⟨D,S,E,z,O,y2,B2,Z,X,t2,rfl,T,J⟩:=hb
 obtain ⟨ah,aa⟩:=hx
 obtain ⟨ac,ab⟩:=hy
 have aE:=ze (uC ah (show 8388608<=67108864 by omega))
 have au:=ze (uC aa (show 8388608<=67108864 by omega))
 have aD:=ze (uC ac (show 8388608<=67108864 by omega))
 have ar:=ze (uC ab (show 8388608<=67108864 by omega))
 have ae:=Z8 ah ab
 have ag:=Z8 ac aa
 have aB:=ze (uC (zku ae ag) (show 8388608+8388608+1<=33554432 by omega))
 have aG:=ze (uC (Z8 aa ab) (show 8388608+8388608<=33554432 by omega))
 have az:=ze (uC ae (show 8388608+8388608<=67108864 by omega))
 have aJ:=ze (uC ag (show 8388608+8388608<=67108864 by omega))
 have aI:=ze (Int.mul_ne_zero (show (x.den:Int)≠0 by have:=x.den_nz;omega) (show (y.den:Int)≠0 by have:=y.den_nz;omega))
 rw [<- zuk]
 clear ah aa ac ab ae ag
 obtain ⟨aA,av,aH,am⟩:=hz4 aj aw T J
 clear aj aw T J
 have ay:Hid (Xu ((((w.alloc (.cells #[.int .i64 M,.slice u N G,.bool L,.int .i64 F,.slice C I Q,.bool K] 60)).alloc (.cells #[.int .i64 D,.slice S E z,.bool O,.int .i64 y2,.slice B2 Z X,.bool t2] 60)).alloc (.cells #[.int .i64 0,.slice none 0 0,.bool false,.int .i64 0,.slice none 0 0,.bool false] 60)).drew) (w.heap.size+1+1)):=by
  have h:=(Blk.new ((w.alloc (.cells #[.int .i64 M,.slice u N G,.bool L,.int .i64 F,.slice C I Q,.bool K] 60)).alloc (.cells #[.int .i64 D,.slice S E z,.bool O,.int .i64 y2,.slice B2 Z X,.bool t2] 60)) 60 #[.int .i64 0,.slice none 0 0,.bool false,.int .i64 0,.slice none 0 0,.bool false]).drew
  simp only [World.size_alloc] at h
  exact ⟨_,_,_,_,_,_,_,_,_,_,h⟩
 have aK:Hid (Below w.heap.size w ((((w.alloc (.cells #[.int .i64 M,.slice u N G,.bool L,.int .i64 F,.slice C I Q,.bool K] 60)).alloc (.cells #[.int .i64 D,.slice S E z,.bool O,.int .i64 y2,.slice B2 Z X,.bool t2] 60)).alloc (.cells #[.int .i64 0,.slice none 0 0,.bool false,.int .i64 0,.slice none 0 0,.bool false] 60)).drew)):=ze (zo (ext (ext (zf w (.cells #[.int .i64 M,.slice u N G,.bool L,.int .i64 F,.slice C I Q,.bool K] 60)) (zf _ (.cells #[.int .i64 D,.slice S E z,.bool O,.int .i64 y2,.slice B2 Z X,.bool t2] 60))) (zf _ (.cells #[.int .i64 0,.slice none 0 0,.bool false,.int .i64 0,.slice none 0 0,.bool false] 60))) 1)
 go_in
 go_wp2_with fail
 go_region_held3 (fun w' =>w'.cell? ⟨w.heap.size,0,none⟩=some (.int .i64 M)/\w'.cell? ⟨w.heap.size,1,none⟩=some (.slice u N G)/\w'.cell? ⟨w.heap.size,2,none⟩=some (.bool L)/\w'.cell? ⟨w.heap.size,3,none⟩=some (.int .i64 F)/\w'.cell? ⟨w.heap.size,4,none⟩=some (.slice C I Q)/\w'.cell? ⟨w.heap.size,5,none⟩=some (.bool K)/\w'.cell? ⟨w.heap.size+1,0,none⟩=some (.int .i64 D)/\w'.cell? ⟨w.heap.size+1,1,none⟩=some (.slice S E z)/\w'.cell? ⟨w.heap.size+1,2,none⟩=some (.bool O)/\w'.cell? ⟨w.heap.size+1,3,none⟩=some (.int .i64 y2)/\w'.cell? ⟨w.heap.size+1,4,none⟩=some (.slice B2 Z X)/\w'.cell? ⟨w.heap.size+1,5,none⟩=some (.bool t2)/\w.heap.size<w'.heap.size/\w.heap.size+1<w'.heap.size/\Hid (Xu w' (w.heap.size+1+1))/\Hid (Below w.heap.size w w'))
  (first
    | with_reducible exact ⟨by go_keep,by go_keep,by go_keep,by go_keep,by go_keep,by go_keep,by go_keep,by go_keep,by go_keep,by go_keep,by go_keep,by go_keep,by first | (simp;done) | (simp;omega),by first | (simp;done) | (simp;omega),ay,aK⟩
    | (go_split_ands;with_reducible exact ⟨zF (by omega) ‹_›,zF (by omega) ‹_›,zF (by omega) ‹_›,zF (by omega) ‹_›,zF (by omega) ‹_›,zF (by omega) ‹_›,zF (by omega) ‹_›,zF (by omega) ‹_›,zF (by omega) ‹_›,zF (by omega) ‹_›,zF (by omega) ‹_›,zF (by omega) ‹_›,ZG ‹_›,ZG ‹_›,ZQ ‹_›,Zb (by omega) ‹_›⟩)
    | (go_split_ands;with_reducible exact ⟨zi ‹_› ‹_› ‹_›,zi ‹_› ‹_› ‹_›,zi ‹_› ‹_› ‹_›,zi ‹_› ‹_› ‹_›,zi ‹_› ‹_› ‹_›,zi ‹_› ‹_› ‹_›,zi ‹_› ‹_› ‹_›,zi ‹_› ‹_› ‹_›,zi ‹_› ‹_› ‹_›,zi ‹_› ‹_› ‹_›,zi ‹_› ‹_› ‹_›,zi ‹_› ‹_› ‹_›,zY ‹_› ‹_›,zY ‹_› ‹_›,Yt ‹_› ‹_›,zp ‹_› ‹_›⟩)
    | go_keep)
  (first
    | (go_at_call_of 40 (Value.agg #[.int .i64 M,.slice u N G,.bool L]);refine (xB _ _ x.num y.den _ (aA.o.below (zW (by go_split_ands;assumption))) (am.o.below (zW (by go_split_ands;assumption))) aE.o ar.o).mono ?_;rintro e w1 ⟨v1,rfl,ak,T⟩;have r:=ze ak;clear ak;try replace l:=ze (l.o.below T);try replace m:=ze (m.o.below T);try replace j:=ze (j.o.below T))
    | (go_at_call_of 40 (Value.agg #[.int .i64 D,.slice S E z,.bool O]);refine (xB _ _ y.num x.den _ (aH.o.below (zW (by go_split_ands;assumption))) (av.o.below (zW (by go_split_ands;assumption))) aD.o au.o).mono ?_;rintro e w2 ⟨v2,rfl,ao,J⟩;have l:=ze ao;clear ao;try replace r:=ze (r.o.below J);try replace m:=ze (m.o.below J);try replace j:=ze (j.o.below J))
    | (go_at_call_of 40 (Value.agg #[.int .i64 F,.slice C I Q,.bool K]);refine (xB _ _ x.den y.den _ (av.o.below (zW (by go_split_ands;assumption))) (am.o.below (zW (by go_split_ands;assumption))) au.o ar.o).mono ?_;rintro e w3 ⟨v3,rfl,ap,ad⟩;have m:=ze ap;clear ap;try replace r:=ze (r.o.below ad);try replace l:=ze (l.o.below ad);try replace j:=ze (j.o.below ad))
    | (go_at_call 63;refine (zf0 _ _ (x.num*y.den) (y.num*x.den) _ r.o l.o az.o aJ.o).mono ?_;rintro e w4 ⟨v4,rfl,al,ai⟩;have j:=ze al;clear al;try replace r:=ze (r.o.below ai);try replace l:=ze (l.o.below ai);try replace m:=ze (m.o.below ai))
    | (go_at_call 39;refine (Yd _ _ (x.num*y.den+y.num*x.den) ((x.den:Int)*y.den) _ j.o m.o aI.o aB.o aG.o).mono ?_;rintro e wo ⟨vo,rfl,⟨x5,Y,k5,c5,U,x6,A6,k6,c6,n6,rfl,aq,an⟩,V⟩;obtain ⟨xr,Ar,kr,cr,sr,yr,Br,aO,aN,tr,b⟩:=(Yt (g:=w.heap.size+1+1) V (by go_split_ands;assumption)).out;have r0:=b.cell 0;have r1:=b.cell 1;have r2:=b.cell 2;have r3:=b.cell 3;have r4:=b.cell 4;have r5:=b.cell 5;have f0:=b.frozen 0;have f1:=b.frozen 1;have f2:=b.frozen 2;have f3:=b.frozen 3;have f4:=b.frozen 4;have f5:=b.frozen 5;simp at r0 r1 r2 r3 r4 r5;have ax:=ze aq;have aL:=ze an;have af:=ze b;clear aq an b;try replace r:=ze (r.o.below V);try replace l:=ze (l.o.below V);try replace m:=ze (m.o.below V);try replace j:=ze (j.o.below V)))
 all_goals
  go_split_ands
  have R:=yj (x:=x5) (A:=Y) (k:=k5) (c:=c5) (s:=U) (y:=x6) (B:=A6) (k' :=k6) (c' :=c6) (t:=n6) af.o
  have aM:=yl (x:=x5) (A:=Y) (k:=k5) (c:=c5) (s:=U) (y:=x6) (B:=A6) (k' :=k6) (c' :=c6) (t:=n6) ax.o af.o
  have aC:=yl (x:=x5) (A:=Y) (k:=k5) (c:=c5) (s:=U) (y:=x6) (B:=A6) (k' :=k6) (c' :=c6) (t:=n6) aL.o af.o
  have aF:=zW (by assumption:Hid (Below w.heap.size w (World.rat wo (w.heap.size+1+1) x5 Y k5 c5 U x6 A6 k6 c6 n6)))
  have e0:=R.cell 0;have e1:=R.cell 1;have e2:=R.cell 2;have e3:=R.cell 3;have e4:=R.cell 4;have e5:=R.cell 5
  simp only [World.rat] at e0 e1 e2 e3 e4 e5
  simp at e0 e1 e2 e3 e4 e5
  go_wp2
  refine bodyPost_ret (v:=.agg #[.int .i64 x5,.slice Y k5 c5,.bool U,.int .i64 x6,.slice A6 k6 c6,.bool n6]) (by simp [results,results26,go_sem,e0,e1,e2,e3,e4,e5]) rfl ?_
  exact ⟨_,rfl,⟨_,_,_,_,_,_,_,_,_,_,rfl,aM,aC⟩,aF⟩
def XG (x y:Rat):Int:=if x<y then -1 else if y<x then 1 else 0
theorem zn6 (x y:Rat):zZ (x.num*y.den) (y.num*x.den)=XG x y:=by
 unfold zZ XG
 have e:=Rat.lt_iff x y
 have j:=Rat.lt_iff y x
 by_cases a:x<y
 . rw [if_pos (e.1 a),if_pos a]
 rw [if_neg (fun h=>a (e.2 h)),if_neg a]
 by_cases b:y<x
 . rw [if_pos (j.1 b),if_pos b]
 rw [if_neg (fun h=>b (j.2 h)),if_neg b]
theorem zua (x:Rat):zZ x.num 0=XG x 0:=by
 have:=zn6 x 0
 simp at this
 rw [<- this]
theorem xJ.neg {M:Nat} {q:Rat} (h:xJ M q):xJ M (-q):=by
 unfold xJ at h |-
 rw [Rat.neg_num,Rat.neg_den,Int.natAbs_neg]
 exact h
theorem xK (va:Value) (x:Rat) (w:World) (ha:zV w va x):
 Calls prog 42 #[va] w (zj3 w (.int .i64 (XG x 0))):=by
 obtain ⟨z,m,l,G,C,F,D,I,r,u,rfl,b,E⟩:=ha
 have j:=ze (zf w (.cells #[.int .i64 z,.slice m l G,.bool C,.int .i64 F,.slice D I r,.bool u] 60))
 have B:=ze (b.below j.o)
 rw [<- zua]
 clear b E
 go_in
 go_wp2_with fail
 refine (ZD _ x.num _ B.o).mono ?_
 rintro e J ⟨rfl,y⟩
 go_wp2
 go_ret
 exact ⟨rfl,ext j.o y⟩
theorem YO (va vb:Value) (x y:Rat) (w:World) (ha:zV w va x) (hb:zV w vb y) (hx:xJ 8388608 x) (hy:xJ 8388608 y):
 Calls prog 22 #[va,vb] w (zj3 w (.int .i64 (XG x y))):=by
 obtain ⟨I,m,l,u,B,M,V,R,S,T,rfl,Z,ac⟩:=ha
 obtain ⟨D,F,E,z,r,Y,X,U,O,J,rfl,G,C⟩:=hb
 obtain ⟨Q,K⟩:=hx
 obtain ⟨L,N⟩:=hy
 have ao:=ze (uC Q (show 8388608<=67108864 by omega))
 have ah:=ze (uC K (show 8388608<=67108864 by omega))
 have an:=ze (uC L (show 8388608<=67108864 by omega))
 have ae:=ze (uC N (show 8388608<=67108864 by omega))
 have am:=ze (uC (Z8 Q N) (show 8388608+8388608<=67108864 by omega))
 have ag:=ze (uC (Z8 L K) (show 8388608+8388608<=67108864 by omega))
 rw [<- zn6]
 clear Q K L N
 obtain ⟨aj,ai,ak,af⟩:=hz4 Z ac G C
 clear Z ac G C
 have al:Hid (Below w.heap.size w (((w.alloc (.cells #[.int .i64 I,.slice m l u,.bool B,.int .i64 M,.slice V R S,.bool T] 60)).alloc (.cells #[.int .i64 D,.slice F E z,.bool r,.int .i64 Y,.slice X U O,.bool J] 60)).drew)):=ze (zo (ext (zf w (.cells #[.int .i64 I,.slice m l u,.bool B,.int .i64 M,.slice V R S,.bool T] 60)) (zf _ (.cells #[.int .i64 D,.slice F E z,.bool r,.int .i64 Y,.slice X U O,.bool J] 60))) 1)
 go_in
 go_wp2_with fail
 go_region_held3 (fun w' =>w'.cell? ⟨w.heap.size,0,none⟩=some (.int .i64 I)/\w'.cell? ⟨w.heap.size,1,none⟩=some (.slice m l u)/\w'.cell? ⟨w.heap.size,2,none⟩=some (.bool B)/\w'.cell? ⟨w.heap.size,3,none⟩=some (.int .i64 M)/\w'.cell? ⟨w.heap.size,4,none⟩=some (.slice V R S)/\w'.cell? ⟨w.heap.size,5,none⟩=some (.bool T)/\w'.cell? ⟨w.heap.size+1,0,none⟩=some (.int .i64 D)/\w'.cell? ⟨w.heap.size+1,1,none⟩=some (.slice F E z)/\w'.cell? ⟨w.heap.size+1,2,none⟩=some (.bool r)/\w'.cell? ⟨w.heap.size+1,3,none⟩=some (.int .i64 Y)/\w'.cell? ⟨w.heap.size+1,4,none⟩=some (.slice X U O)/\w'.cell? ⟨w.heap.size+1,5,none⟩=some (.bool J)/\w.heap.size<w'.heap.size/\w.heap.size+1<w'.heap.size/\Hid (Below w.heap.size w w'))
  (first
    | with_reducible exact ⟨by go_keep,by go_keep,by go_keep,by go_keep,by go_keep,by go_keep,by go_keep,by go_keep,by go_keep,by go_keep,by go_keep,by go_keep,by first | (simp;done) | (simp;omega),by first | (simp;done) | (simp;omega),al⟩
    | (go_split_ands;with_reducible exact ⟨zi ‹_› ‹_› ‹_›,zi ‹_› ‹_› ‹_›,zi ‹_› ‹_› ‹_›,zi ‹_› ‹_› ‹_›,zi ‹_› ‹_› ‹_›,zi ‹_› ‹_› ‹_›,zi ‹_› ‹_› ‹_›,zi ‹_› ‹_› ‹_›,zi ‹_› ‹_› ‹_›,zi ‹_› ‹_› ‹_›,zi ‹_› ‹_› ‹_›,zi ‹_› ‹_› ‹_›,zY ‹_› ‹_›,zY ‹_› ‹_›,zp ‹_› ‹_›⟩)
    | go_keep)
  (first
    | (go_at_call_of 40 (Value.agg #[.int .i64 I,.slice m l u,.bool B]);refine (xB _ _ x.num y.den _ (aj.o.below (zW (by go_split_ands;assumption))) (af.o.below (zW (by go_split_ands;assumption))) ao.o ae.o).mono ?_;rintro e w1 ⟨v1,rfl,aa,G⟩;have j:=ze aa;clear aa;try replace b:=ze (b.o.below G))
    | (go_at_call_of 40 (Value.agg #[.int .i64 D,.slice F E z,.bool r]);refine (xB _ _ y.num x.den _ (ak.o.below (zW (by go_split_ands;assumption))) (ai.o.below (zW (by go_split_ands;assumption))) an.o ah.o).mono ?_;rintro e w2 ⟨v2,rfl,ab,C⟩;have b:=ze ab;clear ab;try replace j:=ze (j.o.below C))
    | (go_at_call 48;refine (zc8 _ _ (x.num*y.den) (y.num*x.den) _ j.o b.o am.o ag.o).mono ?_;rintro e wc ⟨rfl,ap⟩;try replace j:=ze (j.o.below hbo);try replace b:=ze (b.o.below hbo)))
 all_goals
  go_split_ands
  have ad:=zW (by assumption:Hid (Below w.heap.size w wc))
  go_wp2
  go_ret
  exact ⟨rfl,ad⟩
theorem zc3 (va:Value) (x:Rat) (w:World) (ha:zV w va x):
 Calls prog 83 #[va] w (zeb w (-x)):=by
 obtain ⟨M,E,C,I,K,j,u,l,m,r,rfl,X,Z⟩:=ha
 have ac:=ze X
 have ab:=ze Z
 clear X Z
 have af:Hid (Xu (((w.alloc (.cells #[.int .i64 M,.slice E C I,.bool K,.int .i64 j,.slice u l m,.bool r] 60)).alloc (.cells #[.int .i64 0,.slice none 0 0,.bool false,.int .i64 0,.slice none 0 0,.bool false] 60)).drew) (w.heap.size+1)):=by
  have h:=(Blk.new (w.alloc (.cells #[.int .i64 M,.slice E C I,.bool K,.int .i64 j,.slice u l m,.bool r] 60)) 60 #[.int .i64 0,.slice none 0 0,.bool false,.int .i64 0,.slice none 0 0,.bool false]).drew
  simp only [World.size_alloc] at h
  exact ⟨_,_,_,_,_,_,_,_,_,_,h⟩
 have ad:Hid (Below w.heap.size w (((w.alloc (.cells #[.int .i64 M,.slice E C I,.bool K,.int .i64 j,.slice u l m,.bool r] 60)).alloc (.cells #[.int .i64 0,.slice none 0 0,.bool false,.int .i64 0,.slice none 0 0,.bool false] 60)).drew)):=ze (zo (ext (zf w (.cells #[.int .i64 M,.slice E C I,.bool K,.int .i64 j,.slice u l m,.bool r] 60)) (zf _ (.cells #[.int .i64 0,.slice none 0 0,.bool false,.int .i64 0,.slice none 0 0,.bool false] 60))) 1)
 go_in
 go_wp2_with fail
 go_region_held3 (fun w' =>w'.cell? ⟨w.heap.size,0,none⟩=some (.int .i64 M)/\w'.cell? ⟨w.heap.size,1,none⟩=some (.slice E C I)/\w'.cell? ⟨w.heap.size,2,none⟩=some (.bool K)/\w'.cell? ⟨w.heap.size,3,none⟩=some (.int .i64 j)/\w'.cell? ⟨w.heap.size,4,none⟩=some (.slice u l m)/\w'.cell? ⟨w.heap.size,5,none⟩=some (.bool r)/\w.heap.size<w'.heap.size/\Hid (Xu w' (w.heap.size+1))/\Hid (Below w.heap.size w w'))
  (first
    | with_reducible exact ⟨by go_keep,by go_keep,by go_keep,by go_keep,by go_keep,by go_keep,by first | (simp;done) | (simp;omega),af,ad⟩
    | (go_split_ands;with_reducible exact ⟨zF (by omega) ‹_›,zF (by omega) ‹_›,zF (by omega) ‹_›,zF (by omega) ‹_›,zF (by omega) ‹_›,zF (by omega) ‹_›,ZG ‹_›,ZQ ‹_›,Zb (by omega) ‹_›⟩)
    | (go_split_ands;with_reducible exact ⟨zi ‹_› ‹_› ‹_›,zi ‹_› ‹_› ‹_›,zi ‹_› ‹_› ‹_›,zi ‹_› ‹_› ‹_›,zi ‹_› ‹_› ‹_›,zi ‹_› ‹_› ‹_›,zY ‹_› ‹_›,Yt ‹_› ‹_›,zp ‹_› ‹_›⟩)
    | go_keep)
  (first
    | (go_at_call 74;refine (yF _ x.num _ (ac.o.below (zW (by go_split_ands;assumption)))).mono ?_;rintro e wo ⟨vo,rfl,O,Y⟩;obtain ⟨L,G,F,J,D,rfl,_,_,_⟩:=O.form;have ag:=ze (ext (zW (by go_split_ands;assumption)) Y);obtain ⟨xr,Ar,kr,cr,sr,yr,Br,aj,ak,tr,b⟩:=(Yt (g:=w.heap.size+1) Y (by go_split_ands;assumption)).out;have r0:=b.cell 0;have r1:=b.cell 1;have r2:=b.cell 2;have r3:=b.cell 3;have r4:=b.cell 4;have r5:=b.cell 5;have f0:=b.frozen 0;have f1:=b.frozen 1;have f2:=b.frozen 2;have f3:=b.frozen 3;have f4:=b.frozen 4;have f5:=b.frozen 5;simp at r0 r1 r2 r3 r4 r5;have ae:=ze O;have R:=ze b;clear O b))
 all_goals
  go_split_ands
  have z:=yj (x:=L) (A:=G) (k:=F) (c:=J) (s:=D) (y:=j) (B:=u) (k' :=l) (c' :=m) (t:=r) R.o
  have ai:=yl (x:=L) (A:=G) (k:=F) (c:=J) (s:=D) (y:=j) (B:=u) (k' :=l) (c' :=m) (t:=r) ae.o R.o
  have ah:=yl (x:=L) (A:=G) (k:=F) (c:=J) (s:=D) (y:=j) (B:=u) (k' :=l) (c' :=m) (t:=r) (ab.o.below ag.o) R.o
  have aa:=zW (by assumption:Hid (Below w.heap.size w (World.rat wo (w.heap.size+1) L G F J D j u l m r)))
  have N:=z.cell 0;have T:=z.cell 1;have S:=z.cell 2;have U:=z.cell 3;have V:=z.cell 4;have Q:=z.cell 5
  simp only [World.rat] at N T S U V Q
  simp at N T S U V Q
  go_wp2
  refine bodyPost_ret (v:=.agg #[.int .i64 L,.slice G F J,.bool D,.int .i64 j,.slice u l m,.bool r]) (by simp [results,results83,go_sem,N,T,S,U,V,Q]) rfl ?_
  exact ⟨_,rfl,⟨_,_,_,_,_,_,_,_,_,_,rfl,ai,ah⟩,aa⟩
end Go.Proofs.YtobdoblpnanclaaGreatDoor
