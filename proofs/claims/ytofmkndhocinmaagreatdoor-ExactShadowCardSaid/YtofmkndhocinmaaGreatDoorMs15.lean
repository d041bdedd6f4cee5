/- Parts of the proof. -/
import Derived.Test.YtofmkndhocinmaaGreatDoorMs13
import Derived.Test.YtofmkndhocinmaaGreatDoorMs14
set_option linter.all false
set_option maxRecDepth 100000
set_option maxHeartbeats 32000000
namespace Go.Proofs.YtofmkndhocinmaaGreatDoor
open Proofs.Tryz Go.RowKit Go.Deep
attribute [local go_sem ↓] Go.wp_at_zero Go.wp_at_succ
theorem zbt {z:Int} (h:len 4294967296 z.natAbs<=67108864):(xj z).length<=671088642:=by
 have:=ZM h
 unfold xj
 split
 . rw [List.length_cons];omega
 omega
theorem zf0 {q:Rat} (h:q.den=1):zu q=xj q.num:=by
 unfold zu xj
 rw [if_pos h]
 by_cases b:q.num<0
 . rw [if_pos b,if_pos b];simp
 rw [if_neg b,if_neg b];simp
theorem ze9 {q:Rat} (h:q.den≠1):zu q=xj q.num ++ 47 :: xj (q.den:Int):=by
 have hd:xj (q.den:Int)=dec q.den:=by unfold xj;rw [if_neg (by omega),Int.natAbs_natCast]
 rw [hd]
 unfold zu xj
 rw [if_neg h]
 by_cases b:q.num<0
 . rw [if_pos b,if_pos b];simp
 rw [if_neg b,if_neg b];simp
theorem zes (a b:List UInt8):(⟨a.toArray⟩:ByteArray) ++ (⟨b.toArray⟩:ByteArray)=⟨(a ++ b).toArray⟩:=by
 apply ByteArray.ext
 rw [ByteArray.data_append]
 simp
theorem zM.one {w:World} {y d:Int} {B:Option Addr} {k c:Nat} {t:Bool} (h:zM w (.agg #[.int .i64 y,.slice B k c,.bool t]) d):d=1↔(B=none/\y=1):=by
 rcases h with ⟨x,ng,e,b,j,rfl⟩ | ⟨l,k',c',n,ng,e,b,j,rfl⟩
 . injection e with e
   have e0:=congrArg (fun a=>a.toList) e;simp at e0;obtain ⟨rfl,⟨rfl,rfl,rfl⟩,rfl⟩:=e0
   simp
 . injection e with e
   have e0:=congrArg (fun a=>a.toList) e;simp at e0;obtain ⟨rfl,⟨rfl,rfl,rfl⟩,rfl⟩:=e0
   constructor
   rotate_left
   . intro h;cases h.1
   intro h
   split at h<;>omega
theorem Xs (va:Value) (q:Rat) (w:World) (ha:zE w va q) (hl:xS 67108864 q):
 Calls prog 39 #[va] w (zmu w (zu q)):=by
 obtain ⟨u,m,k1,c1,s1,b,z,j,l,r,rfl,B,D⟩:=ha
 have C:=zM.one D
 have y:=ze (zf w (.cells #[.int .i64 u,.slice m k1 c1,.bool s1,.int .i64 b,.slice z j l,.bool r] 62))
 have I:=ze (B.below y.o)
 have Q:=ze B
 have O:=ze D
 have E:=ze hl.1
 have G:=ze hl.2
 have V:=fun w=>zlg w z j l 0 0
 by_cases hd:q.den=1
 . obtain ⟨rfl,rfl⟩:=C.1 (by omega)
   rw [zf0 hd];clear C B D hd hl
   go_in
   go_wp2_with fail;refine (XT _ q.num _ I.o E.o).mono ?_;rintro e w1 ⟨rfl,L⟩;go_wp2;go_ret;exact ⟨rfl,ext y.o L⟩
 have U:=zbt E.o
 have S:=zbt G.o;have R:=ze (ze9 hd);have N:¬ (z=none/\b=1):=fun h=>hd (by have:=C.2 h;omega)
 have Y:¬ 9223372036854775807<(xj q.num).length+1:=by omega
 have Z:¬ 9223372036854775807<(xj q.num).length+1+(xj (q.den:Int)).length:=by omega
 clear C B D hd hl U S
 have K:z=none->((b:Int) == 1)=false:=by
  intro e;rw [beq_eq_false_iff_ne];exact fun h=>N ⟨e,h⟩
 clear N
 rcases z with _ | bd
 . have X:=K rfl
   clear K;have J:Hid (Below w.heap.size w ((w.alloc (.cells #[.int .i64 u,.slice m k1 c1,.bool s1,.int .i64 b,.slice none j l,.bool r] 62)).drew)):=ze (zt y.o 1);clear y I
   go_in
   go_wp2_with fail
   go_region_held3 (fun w' =>w'.cell? ⟨w.heap.size,0,none⟩=some (.int .i64 u)/\w'.cell? ⟨w.heap.size,1,none⟩=some (.slice m k1 c1)/\w'.cell? ⟨w.heap.size,2,none⟩=some (.bool s1)/\w'.cell? ⟨w.heap.size,3,none⟩=some (.int .i64 b)/\w'.cell? ⟨w.heap.size,4,none⟩=some (.slice none j l)/\w'.cell? ⟨w.heap.size,5,none⟩=some (.bool r)/\w.heap.size<w'.heap.size/\Hid (Below w.heap.size w w'))
    (first
      | with_reducible exact ⟨by go_keep,by go_keep,by go_keep,by go_keep,by go_keep,by go_keep,by first | (simp;done) | (simp;omega),J⟩
      | (go_split_ands;with_reducible exact ⟨zh ‹_› ‹_› ‹_›,zh ‹_› ‹_› ‹_›,zh ‹_› ‹_› ‹_›,zh ‹_› ‹_› ‹_›,zh ‹_› ‹_› ‹_›,zh ‹_› ‹_› ‹_›,zU ‹_› ‹_›,zo ‹_› ‹_›⟩)
      | go_keep)
    (first
      | (go_at_call_of 78 (Value.agg #[.int .i64 u,.slice m k1 c1,.bool s1]);refine (XT _ q.num _ (Q.o.below (zO (by go_split_ands;assumption))) E.o).mono ?_;rintro e w1 ⟨rfl,L⟩)
      | (go_at_call_of 78 (Value.agg #[.int .i64 b,.slice none j l,.bool r]);refine (XT _ (q.den:Int) _ (O.o.below (zO (by go_split_ands;assumption))) G.o).mono ?_;rintro e M ⟨rfl,T⟩))
   all_goals
    go_split_ands;have F:=zO (by assumption:Hid (Below w.heap.size w M));go_wp2;go_ret;refine ⟨?_,F⟩;rw [R.o,show xj q.num ++ 47 :: xj (q.den:Int)=(xj q.num ++ [47]) ++ xj (q.den:Int) by simp, <- zes, <- zes]
    rfl
 . clear K
   have J:Hid (Below w.heap.size w ((w.alloc (.cells #[.int .i64 u,.slice m k1 c1,.bool s1,.int .i64 b,.slice (some bd) j l,.bool r] 62)).drew)):=ze (zt y.o 1);clear y I
   go_in
   go_wp2_with fail
   go_region_held3 (fun w' =>w'.cell? ⟨w.heap.size,0,none⟩=some (.int .i64 u)/\w'.cell? ⟨w.heap.size,1,none⟩=some (.slice m k1 c1)/\w'.cell? ⟨w.heap.size,2,none⟩=some (.bool s1)/\w'.cell? ⟨w.heap.size,3,none⟩=some (.int .i64 b)/\w'.cell? ⟨w.heap.size,4,none⟩=some (.slice (some bd) j l)/\w'.cell? ⟨w.heap.size,5,none⟩=some (.bool r)/\w.heap.size<w'.heap.size/\Hid (Below w.heap.size w w'))
    (first
      | with_reducible exact ⟨by go_keep,by go_keep,by go_keep,by go_keep,by go_keep,by go_keep,by first | (simp;done) | (simp;omega),J⟩
      | (go_split_ands;with_reducible exact ⟨zh ‹_› ‹_› ‹_›,zh ‹_› ‹_› ‹_›,zh ‹_› ‹_› ‹_›,zh ‹_› ‹_› ‹_›,zh ‹_› ‹_› ‹_›,zh ‹_› ‹_› ‹_›,zU ‹_› ‹_›,zo ‹_› ‹_›⟩)
      | go_keep)
    (first
      | (go_at_call_of 78 (Value.agg #[.int .i64 u,.slice m k1 c1,.bool s1]);refine (XT _ q.num _ (Q.o.below (zO (by go_split_ands;assumption))) E.o).mono ?_;rintro e w1 ⟨rfl,L⟩)
      | (go_at_call_of 78 (Value.agg #[.int .i64 b,.slice (some bd) j l,.bool r]);refine (XT _ (q.den:Int) _ (O.o.below (zO (by go_split_ands;assumption))) G.o).mono ?_;rintro e M ⟨rfl,T⟩))
   all_goals
    go_split_ands;have F:=zO (by assumption:Hid (Below w.heap.size w M));go_wp2;go_ret;refine ⟨?_,F⟩;rw [R.o,show xj q.num ++ 47 :: xj (q.den:Int)=(xj q.num ++ [47]) ++ xj (q.den:Int) by simp, <- zes, <- zes]
    rfl
theorem zam (M:Nat) (q:Rat):(!decide (yC M q))=(decide (M<(dec q.num.natAbs).length) || decide (M<(dec q.den).length)):=by
 by_cases b:(dec q.num.natAbs).length<=M
 rotate_left
 . rw [uF (fun h:yC M q=>b h.1),uE (show M<(dec q.num.natAbs).length by omega)];rfl
 by_cases e:(dec q.den).length<=M
 . rw [uE (show yC M q from ⟨b,e⟩),uF (by omega),uF (by omega)];rfl
 rw [uF (fun h:yC M q=>e h.2),uE (show M<(dec q.den).length by omega),Bool.or_true];rfl
theorem yA.slice {w:World} {v:Value} {n:Nat} (h:yA w v n):∃ A c,v= .slice A (len 4294967296 n) c:=by
 obtain ⟨A',c',ds,e,m,l,r,b,j⟩:=h
 refine ⟨A',c',?_⟩
 rw [e, <- j,b.length_eq (by omega)]
theorem Xv {n M:Nat} (h:len 4294967296 n*10<=M) (hM:1<=M):(dec n).length<=M:=by
 by_cases e:n=0
 . subst e;rw [vt];simpa using hM
 rw [zdo n e]
 have l:len 10 n<=10*len 4294967296 n:=by
  apply xC (by omega)
  have j:=vX (β:=4294967296) (by omega) n;have b:4294967296 ^ len 4294967296 n<=(10 ^ 10) ^ len 4294967296 n:=Nat.pow_le_pow_left (by omega) _;rw [<- Nat.pow_mul] at b;exact uK j b
 omega
theorem XR (va:Value) (q:Rat) (M:Nat) (w:World) (ha:zE w va q) (hl:xS 67108864 q) (h1M:1<=M) (hM2:M<=1000000):
 Calls prog 52 #[va,.int .i64 M] w (zij w (.bool (!decide (yC M q)))):=by
 obtain ⟨x1,Z,k1,c1,s1,X,B1,aa,ab,t1,rfl,U,ad⟩:=ha
 have F:=zf w (.cells #[.int .i64 x1,.slice Z k1 c1,.bool s1,.int .i64 X,.slice B1 aa ab,.bool t1] 62)
 have HA:=ze (U.below F)
 have HD:=ze (ad.below F)
 have HW:=ze F
 have D:=ze hl.1
 have r:=ze hl.2
 have kB:=Blk.new w 62 #[.int .i64 x1,.slice Z k1 c1,.bool s1,.int .i64 X,.slice B1 aa ab,.bool t1]
 have HK:=ze kB
 clear U ad hl F kB
 go_in
 go_wp2_with fail
 refine (Zb _ q.num _ HA.o).mono ?_
 rintro e w1 ⟨p,rfl,hp,T⟩
 have Y:=HK.o.below T HK.o.lt
 obtain ⟨_,_,_,b3,b4,b5,_⟩:=bp6 Y
 have HP:=ze hp
 have ac:=ze T
 clear hp T Y
 go_wp2_with fail
 refine (Zb _ (q.den:Int) _ (HD.o.below ac.o)).mono ?_
 rintro e w2 ⟨p',rfl,K,R⟩
 obtain ⟨A2,c2,rfl⟩:=HP.o.slice
 obtain ⟨A3,c3,rfl⟩:=K.slice
 have S:=ze (HP.o.below R)
 have Q :=ze K
 have G:=ze (ext (ext HW.o ac.o) R)
 clear b3 b4 b5 K R
 have ai:len 4294967296 q.num.natAbs<=67108864:=D.o
 have ah:len 4294967296 (q.den:Int).natAbs<=67108864:=r.o
 obtain ⟨a,C⟩:=uQ (len 4294967296 q.num.natAbs)
 obtain ⟨b,E⟩:=uQ (len 4294967296 (q.den:Int).natAbs)
 rw [<- C] at ai
 rw [<- E] at ah
 rw [<- C] at S
 rw [<- E] at Q
 have V :=ze C
 have ae :=ze E
 rw [<- C, <- E]
 clear C E
 rcases (show a<=b\/b<a by omega) with aj | aj
 . by_cases hm:b*10<=M
   . have O:=ze (show yC M q from ⟨Xv (by rw [<- V.o];omega) h1M,by have:=Xv (n:=(q.den:Int).natAbs) (by rw [<- ae.o];omega) h1M;rwa [Int.natAbs_natCast] at this⟩)
     have l:=ze (show (!decide (yC M q))=false by rw [uE O.o];rfl);go_wp2;go_ret;exact ⟨yB l.o,G.o⟩
   have ag :¬ (b:Int)*10<=(M:Int):=by omega
   have ak:=ZM D.o;go_wp2_with fail;refine (Yo _ _ _ S.o D.o).mono ?_;rintro e w3 ⟨rfl,z⟩;have B:=ze (Q.o.below z);have u:=ze (ext G.o z);clear z
   by_cases m:(dec q.num.natAbs).length<=M
   rotate_left
   . have l:=ze (show (!decide (yC M q))=true by rw [uF (fun h=>m h.1)];rfl)
     have N:(M:Int)<((dec q.num.natAbs).length:Int):=by omega
     clear m;go_wp2;go_ret;exact ⟨yB l.o,u.o⟩
   have af:=ZM r.o
   have N:¬ (M:Int)<((dec q.num.natAbs).length:Int):=by omega
   have J:=ze m;clear m
   by_cases j:(dec (q.den:Int).natAbs).length<=M
   . have l:=ze (show (!decide (yC M q))=false by rw [uE ⟨J.o,by rw [Int.natAbs_natCast] at j;exact j⟩];rfl)
     have L:¬ (M:Int)<((dec (q.den:Int).natAbs).length:Int):=by omega
     clear j;go_wp2_with fail;refine (Yo _ _ _ B.o r.o).mono ?_;rintro e I ⟨rfl,y⟩;go_wp2;go_ret;exact ⟨yB (zam M q),ext u.o y⟩
   have l:=ze (show (!decide (yC M q))=true by rw [uF (fun h=>j (by rw [Int.natAbs_natCast];exact h.2))];rfl)
   have L:(M:Int)<((dec (q.den:Int).natAbs).length:Int):=by omega
   clear j;go_wp2_with fail;refine (Yo _ _ _ B.o r.o).mono ?_;rintro e I ⟨rfl,y⟩;go_wp2;go_ret;exact ⟨yB (zam M q),ext u.o y⟩
 . by_cases hm:a*10<=M
   . have O:=ze (show yC M q from ⟨Xv (by rw [<- V.o];omega) h1M,by have:=Xv (n:=(q.den:Int).natAbs) (by rw [<- ae.o];omega) h1M;rwa [Int.natAbs_natCast] at this⟩)
     have l:=ze (show (!decide (yC M q))=false by rw [uE O.o];rfl);go_wp2;go_ret;exact ⟨yB l.o,G.o⟩
   have ag :¬ (a:Int)*10<=(M:Int):=by omega
   have ak:=ZM D.o;go_wp2_with fail;refine (Yo _ _ _ S.o D.o).mono ?_;rintro e w3 ⟨rfl,z⟩;have B:=ze (Q.o.below z);have u:=ze (ext G.o z);clear z
   by_cases m:(dec q.num.natAbs).length<=M
   rotate_left
   . have l:=ze (show (!decide (yC M q))=true by rw [uF (fun h=>m h.1)];rfl)
     have N:(M:Int)<((dec q.num.natAbs).length:Int):=by omega
     clear m;go_wp2;go_ret;exact ⟨yB l.o,u.o⟩
   have af:=ZM r.o
   have N:¬ (M:Int)<((dec q.num.natAbs).length:Int):=by omega
   have J:=ze m;clear m
   by_cases j:(dec (q.den:Int).natAbs).length<=M
   . have l:=ze (show (!decide (yC M q))=false by rw [uE ⟨J.o,by rw [Int.natAbs_natCast] at j;exact j⟩];rfl)
     have L:¬ (M:Int)<((dec (q.den:Int).natAbs).length:Int):=by omega
     clear j;go_wp2_with fail;refine (Yo _ _ _ B.o r.o).mono ?_;rintro e I ⟨rfl,y⟩;go_wp2;go_ret;exact ⟨yB (zam M q),ext u.o y⟩
   have l:=ze (show (!decide (yC M q))=true by rw [uF (fun h=>j (by rw [Int.natAbs_natCast];exact h.2))];rfl)
   have L:(M:Int)<((dec (q.den:Int).natAbs).length:Int):=by omega
   clear j;go_wp2_with fail;refine (Yo _ _ _ B.o r.o).mono ?_;rintro e I ⟨rfl,y⟩;go_wp2;go_ret;exact ⟨yB (zam M q),ext u.o y⟩
def ZQ (q:Rat):List UInt8×Int:=if yC 50000 q then (zu q,0) else ([],3)
def zom (w:World) (r:List UInt8×Int) (e:Ending) (w' :World):Prop:=e= .returned (.tuple #[str r.1,.int .i64 r.2])/\Below w.heap.size w w'
theorem zar (va:Value) (q:Rat) (w:World) (ha:zE w va q) (hl:xS 67108864 q):
 Calls prog 25 #[va] w (zom w (ZQ q)):=by
 obtain ⟨Q,F,k1,c1,s1,D,K,G,I,J,rfl,C,M⟩:=ha
 have r:=zf w (.cells #[.int .i64 Q,.slice F k1 c1,.bool s1,.int .i64 D,.slice K G I,.bool J] 62)
 have z:=ze (show zE _ _ q from ⟨_,_,_,_,_,_,_,_,_,_,rfl,C.below r,M.below r⟩)
 have O:=ze r
 have B:=ze hl
 have R:=Blk.new w 62 #[.int .i64 Q,.slice F k1 c1,.bool s1,.int .i64 D,.slice K G I,.bool J]
 have L:=ze R
 clear C M hl r R
 have u:=fun v w h hl=>XR v q 50000 w h hl (by omega) (by omega)
 by_cases b:yC 50000 q
 . have m:(!decide (yC 50000 q))=false:=by rw [uE b];rfl
   have l:ZQ q=(zu q,0):=by unfold ZQ;rw [if_pos b]
   rw [m] at u;rw [l];clear m l b
   go_in
   go_wp2_with fail;refine (u _ _ z.o B.o).mono ?_;rintro e w1 ⟨rfl,j⟩;have E:=L.o.below j L.o.lt;obtain ⟨V,b1,b2,U,X,T,_⟩:=bp6 E;have y:=ze j;clear j E;go_wp2_with fail;refine (Xs _ q w1 (z.o.below y.o) B.o).mono ?_;rintro e Y ⟨rfl,N⟩;have S:=ze N;clear N;go_wp2;go_ret2;exact ⟨rfl,ext (ext O.o y.o) S.o⟩
 have m:(!decide (yC 50000 q))=true:=by rw [uF b];rfl
 have l:ZQ q=([],3):=by unfold ZQ;rw [if_neg b]
 rw [m] at u;rw [l];clear m l b
 go_in
 go_wp2_with fail;refine (u _ _ z.o B.o).mono ?_;rintro e w1 ⟨rfl,j⟩;have y:=ze j;clear j;go_wp2;go_ret2;exact ⟨rfl,ext O.o y.o⟩
theorem VE {w w' :World} {v:Value} {z:Int} (hb:Below w.heap.size w w') (h:Hid (zM w v z)):Hid (zM w' v z):=h.out.below hb
theorem Zw {w:World} {g:Nat} {v:Value} {z x y:Int} {A B:Option Addr} {k c k' c' :Nat} {s t:Bool} (b:Hid (Yt w g)) (h:Hid (zM w v z)):Hid (zM (World.rat w g x A k c s y B k' c' t) v z):=by
 obtain ⟨x,A,k,c,s,y,B,k',c',t,b⟩:=b.out
 exact yk h.out b
def ztk (v:Value):Prop:=∃ (x:Int) (A:Option Addr) (k c:Nat) (s:Bool) (y:Int) (B:Option Addr) (k' c' :Nat) (t:Bool),v= .agg #[.int .i64 x,.slice A k c,.bool s,.int .i64 y,.slice B k' c',.bool t]
def xQ (w:World) (l:List UInt8) (e:Ending) (w' :World):Prop:=
 ∃ v b,e= .returned (.tuple #[v,.bool b])/\ztk v/\b=(zj l).isSome/\(∀ q,zj l=some q->zE w' v q)/\Below w.heap.size w w'
theorem xQ.no {w w' :World} {l:List UInt8} {v:Value} (h:zj l=none) (hv:ztk v) (hb:Below w.heap.size w w'):xQ w l (.returned (.tuple #[v,.bool false])) w' :=
 ⟨v,false,rfl,hv,by rw [h];rfl,fun q hq=>(by rw [h] at hq;cases hq),hb⟩
theorem xQ.yes {w w' :World} {l:List UInt8} {v:Value} {q:Rat} (h:zj l=some q) (hv:zE w' v q) (hb:Below w.heap.size w w'):xQ w l (.returned (.tuple #[v,.bool true])) w' :=by
 refine ⟨v,true,rfl,?_,(by rw [h];rfl),fun q' hq=>?_,hb⟩
 rotate_left
 . rw [h] at hq;injection hq with hq;rw [<- hq];exact hv
 obtain ⟨x,A,k,c,s,y,B,k',c',t,rfl,_,_⟩:=hv
 exact ⟨x,A,k,c,s,y,B,k',c',t,rfl⟩
theorem xQ.maybe {w w' :World} {l:List UInt8} {v:Value} {q:Rat} {d:Nat} (h:zj l=if q.den=d then some q else none) (hv:zE w' v q) (hb:Below w.heap.size w w'):
 xQ w l (.returned (.tuple #[v,.bool (yj (q.den:Int) (signed false d) == 0)])) w' :=by
 have e:(yj (q.den:Int) (signed false d) == 0)=decide (q.den=d):=by
  unfold yj signed
  simp only [Bool.false_eq_true,if_false]
  rcases Nat.lt_trichotomy q.den d with b | b | b
  . rw [if_pos (by omega),uF (by omega)];rfl
  . rw [if_neg (by omega),if_neg (by omega),uE b];rfl
  . rw [if_neg (by omega),if_pos (by omega),uF (by omega)];rfl
 rw [e]
 by_cases hd:q.den=d
 . rw [uE hd]
   rw [if_pos hd] at h;exact xQ.yes h hv hb
 rw [uF hd]
 rw [if_neg hd] at h;obtain ⟨x,A,k,c,s,y,B,k',c',t,rfl,_,_⟩:=hv;exact xQ.no h ⟨x,A,k,c,s,y,B,k',c',t,rfl⟩ hb
theorem Xo (a:ByteArray) (c:UInt8):(a.toList == [c])=decide (bts a=[c]):=by
 rw [Lib.toList_data]
 unfold bts
 rw [Bool.eq_iff_iff,beq_iff_eq,decide_eq_true_iff]
theorem zg7 (w:World):zM w (.agg #[.int .i64 1,.slice none 0 0,.bool false]) 1:=.inl ⟨1,false,rfl,by omega,by omega,rfl⟩
theorem Yj (s:Bool) (n d:Nat):Rat.divInt (signed s n) (signed false d)=Ye s n d:=by
 unfold Ye signed
 cases s<;>simp
theorem vi {s:Bool} {n M:Nat} (h:len 4294967296 n<=M):len 4294967296 (signed s n).natAbs<=M:=by
 unfold signed
 cases s<;>simpa using h
theorem Z4 (s:ByteArray) (w:World) (hs:s.size<=1073741824):
 Calls prog 29 #[.string s] w (xQ w (bts s)):=by
 have bl:=fun w=>zeb s w hs
 have I:=Blk.new w 62 #[.int .i64 0,.slice none 0 0,.bool false,.int .i64 0,.slice none 0 0,.bool false]
 have bo:=zf w (.cells #[.int .i64 0,.slice none 0 0,.bool false,.int .i64 0,.slice none 0 0,.bool false] 62)
 go_in
 go_wp2_with fail
 refine (bl _).mono ?_
 rintro e w1 ⟨u,rfl,hu,rfl⟩
 have bq:u.size<=1073741824:=by
  rw [<- zq,hu]
  unfold zp
  have:=zq s
  split
  . rw [List.length_tail];omega
  omega
 have bp:=fun w=>zsv u 47 w bq
 obtain ⟨neg,a5⟩:=uQ (xy (bts s))
 rw [<- a5]
 have HU:=ze hu
 have HN:=ze a5
 clear bl hu a5
 go_wp2_with fail
 refine (bp _).mono ?_
 rintro e w1 ⟨a,b,rfl,ha,hb,n1,rfl⟩
 rw [HU.o] at ha hb |-
 obtain ⟨bh,a4⟩:=uQ (has 47 (zp (bts s)))
 rw [<- a4] at hb |-
 have bn:a.size<=1073741824:=by
  have h1:(ahead 47 (zp (bts s))).length<=(zp (bts s)).length:=(List.takeWhile_sublist _).length_le
  rw [<- ha, <- HU.o,zq,zq] at h1
  omega
 have bm:b.size<=1073741824:=by
  rw [<- zq,hb]
  split
  rotate_left
  . simp
  have h1:(yy 47 (zp (bts s))).length<=(zp (bts s)).length:=by
   unfold yy;rw [List.length_tail];have:=(List.dropWhile_sublist (fun x=>x != (47:UInt8)) (l:=zp (bts s))).length_le
   omega
  rw [<- HU.o,zq] at h1;rw [HU.o] at h1
  omega
 have aP:=fun w=>zf4 a w bn
 have L:=fun w=>zf4 b w bm
 have za:=Xo a 48
 have M:=Xo b 48
 have zc:=Xo b 49
 rw [ha] at aP za
 obtain ⟨HA,HB,HI,HS⟩:=hz4 ha hb a4 hs
 have al:=I.drewN n1
 have ba:=zt bo n1
 clear bp ha hb a4 bq bn bm hs I bo
 generalize (w.alloc (.cells #[.int .i64 0,.slice none 0 0,.bool false,.int .i64 0,.slice none 0 0,.bool false] 62)).drewN n1=w1 at al ba |-
 have lR:=al.lt;have r0:=al.cell 0;have r1:=al.cell 1;have r2:=al.cell 2;have r3:=al.cell 3;have r4:=al.cell 4;have r5:=al.cell 5;obtain ⟨f0,f1,f2,f3,f4,f5⟩:=fp6 al;simp at r0 r1 r2 r3 r4 r5
 have U:=ze al
 have ac:=ze ba
 clear al ba
 cases hpl:yc (ahead 47 (zp (bts s))) with
 | false=>
   have E:=ze (zpe hpl);rw [hpl] at aP;clear hpl za M zc L;go_wp2_with fail;refine (aP _).mono ?_;rintro e w2 ⟨rfl,rfl⟩;go_wp2_with fail;have j:=yf (x:=0) (A:=none) (k:=0) (c:=0) (s:=false) (y:=0) (B:=none) (k' :=0) (c' :=0) (t:=false) U.o;have e0:=j.cell 0;have m:=j.cell 1;have z:=j.cell 2;have D:=j.cell 3;have C:=j.cell 4;have r:=j.cell 5;simp only [World.rat] at e0 m z D C r;simp at e0 m z D C r;refine bodyPost_ret (v:=.tuple #[.agg #[.int .i64 0,.slice none 0 0,.bool false,.int .i64 0,.slice none 0 0,.bool false],.bool false]) (by simp [results,results29,go_sem,e0,m,z,D,C,r]) rfl ?_;exact xQ.no E.o ⟨_,_,_,_,_,_,_,_,_,_,rfl⟩ (yq (x:=0) (A:=none) (k:=0) (c:=0) (s:=false) (y:=0) (B:=none) (k' :=0) (c' :=0) (t:=false) ac.o (uA))
 | true=>
   have ak:=ze hpl;rw [hpl] at aP;clear hpl;go_wp2_with fail;refine (aP _).mono ?_;rintro e w2 ⟨rfl,rfl⟩;clear aP
   cases neg with
   | false=>
     cases za1:(a.toList == [48]) with
     | true=>
       cases bh with
       | false=>
         have E:=ze (Vu ak.o (fun h=>by rw [<- HN.o] at h;cases h) HI.o.symm);have HC:=ze (ZZ ak.o);rw [<- HN.o] at E;have ay:=ze (show a.size<=50000 by rw [<- zq,HA.o];exact HC.o.2);clear za M zc L;go_wp2_with fail;refine (Yb a _ (by rw [HA.o];exact HC.o.1) ay.o).mono ?_;rintro e w2 ⟨v,rfl,hv,ad⟩;rw [HA.o] at hv;have HV:=ze hv;have J:=ze (U.o.below ad lR);have ar:=ze (ext ac.o ad);clear hv ad r0 r1 r2 r3 r4 r5 f0 f1 f2 f3 f4 f5;go_wp2_with fail;refine (yh false v _ w2 HV.o).mono ?_;rintro e w3 ⟨v3,rfl,ae,K⟩;obtain ⟨x',A',k',c',aa,rfl,_,_,_⟩:=ae.form;have G:=zf w3 (.cells #[.int .i64 x',.slice A' k' c',.bool aa] 60);have ah:=ze (ae.below G);have F:=(J.o.below K J.o.lt).below G (J.o.below K J.o.lt).lt;have aj:=ze (ext (ext ar.o K) G);have af:=ze F;have r0:=F.cell 0;have r1:=F.cell 1;have r2:=F.cell 2;have r3:=F.cell 3;have r4:=F.cell 4;have r5:=F.cell 5;obtain ⟨f0,f1,f2,f3,f4⟩:=fp5 F
         have f5:=F.frozen 5;simp at r0 r1 r2 r3 r4 r5;have kX:=Blk.new w3 60 #[.int .i64 x',.slice A' k' c',.bool aa];obtain ⟨g0,g1,g2,_⟩:=bp3 kX;clear K ae G F kX lR;go_wp2_with fail;have ab:=yf (x:=x') (A:=A') (k:=k') (c:=c') (s:=aa) (y:=1) (B:=none) (k' :=0) (c' :=0) (t:=false) af.o;have e0:=ab.cell 0;have m:=ab.cell 1;have z:=ab.cell 2;have D:=ab.cell 3;have C:=ab.cell 4;have r:=ab.cell 5;simp only [World.rat] at e0 m z D C r;simp at e0 m z D C r;refine bodyPost_ret (v:=.tuple #[.agg #[.int .i64 x',.slice A' k' c',.bool aa,.int .i64 1,.slice none 0 0,.bool false],.bool true]) (by simp [results,results29,go_sem,e0,m,z,D,C,r]) rfl ?_;refine xQ.yes E.o ⟨_,_,_,_,_,_,_,_,_,_,rfl,?_,?_⟩ (yq aj.o (uA))
         . rw [(Y5 _ _).1]
           exact yk ah.o af.o
         rw [(Y5 _ _).2]
         exact zg7 _
       | true=>
         cases hpb2:yc (bts b) with
         | false=>
           have E:=ze (Z1 HI.o.symm (.inl (by have:=HB.o;rw [if_pos rfl] at this;rw [<- this];exact hpb2)));rw [hpb2] at L;clear hpb2 za M zc;go_wp2_with fail;refine (L _).mono ?_;rintro e w2 ⟨rfl,rfl⟩;go_wp2_with fail;have j:=yf (x:=0) (A:=none) (k:=0) (c:=0) (s:=false) (y:=0) (B:=none) (k' :=0) (c' :=0) (t:=false) U.o;have e0:=j.cell 0;have m:=j.cell 1;have z:=j.cell 2;have D:=j.cell 3;have C:=j.cell 4;have r:=j.cell 5;simp only [World.rat] at e0 m z D C r;simp at e0 m z D C r;refine bodyPost_ret (v:=.tuple #[.agg #[.int .i64 0,.slice none 0 0,.bool false,.int .i64 0,.slice none 0 0,.bool false],.bool false]) (by simp [results,results29,go_sem,e0,m,z,D,C,r]) rfl ?_;exact xQ.no E.o ⟨_,_,_,_,_,_,_,_,_,_,rfl⟩ (yq (x:=0) (A:=none) (k:=0) (c:=0) (s:=false) (y:=0) (B:=none) (k' :=0) (c' :=0) (t:=false) ac.o (uA))
         | true=>
           have au:=ze hpb2;rw [hpb2] at L;clear hpb2
           cases zb1:(b.toList == [48]) with
           | true=>
             have E:=ze (Z1 HI.o.symm (.inr (.inl (by have:=HB.o;rw [if_pos rfl] at this;rw [<- this];exact uG (M.symm.trans zb1)))));clear za M zc;go_wp2_with fail;refine (L _).mono ?_;rintro e w2 ⟨rfl,rfl⟩;go_wp2_with fail;have j:=yf (x:=0) (A:=none) (k:=0) (c:=0) (s:=false) (y:=0) (B:=none) (k' :=0) (c' :=0) (t:=false) U.o;have e0:=j.cell 0;have m:=j.cell 1;have z:=j.cell 2;have D:=j.cell 3;have C:=j.cell 4;have r:=j.cell 5;simp only [World.rat] at e0 m z D C r;simp at e0 m z D C r;refine bodyPost_ret (v:=.tuple #[.agg #[.int .i64 0,.slice none 0 0,.bool false,.int .i64 0,.slice none 0 0,.bool false],.bool false]) (by simp [results,results29,go_sem,e0,m,z,D,C,r]) rfl ?_;exact xQ.no E.o ⟨_,_,_,_,_,_,_,_,_,_,rfl⟩ (yq (x:=0) (A:=none) (k:=0) (c:=0) (s:=false) (y:=0) (B:=none) (k' :=0) (c' :=0) (t:=false) ac.o (uA))
           | false=>
             cases zc1:(b.toList == [49]) with
             | true=>
               have E:=ze (Z1 HI.o.symm (.inr (.inr (.inl (by have:=HB.o;rw [if_pos rfl] at this;rw [<- this];exact uG (zc.symm.trans zc1))))));clear za M zc;go_wp2_with fail;refine (L _).mono ?_;rintro e w2 ⟨rfl,rfl⟩;go_wp2_with fail;have j:=yf (x:=0) (A:=none) (k:=0) (c:=0) (s:=false) (y:=0) (B:=none) (k' :=0) (c' :=0) (t:=false) U.o;have e0:=j.cell 0;have m:=j.cell 1;have z:=j.cell 2;have D:=j.cell 3;have C:=j.cell 4;have r:=j.cell 5;simp only [World.rat] at e0 m z D C r;simp at e0 m z D C r;refine bodyPost_ret (v:=.tuple #[.agg #[.int .i64 0,.slice none 0 0,.bool false,.int .i64 0,.slice none 0 0,.bool false],.bool false]) (by simp [results,results29,go_sem,e0,m,z,D,C,r]) rfl ?_;exact xQ.no E.o ⟨_,_,_,_,_,_,_,_,_,_,rfl⟩ (yq (x:=0) (A:=none) (k:=0) (c:=0) (s:=false) (y:=0) (B:=none) (k' :=0) (c' :=0) (t:=false) ac.o (uA))
             | false=>
               have E:=ze (Z1 HI.o.symm (.inr (.inr (.inr (uG (by rw [<- za];exact za1))))));clear za M zc;go_wp2_with fail;refine (L _).mono ?_;rintro e w2 ⟨rfl,rfl⟩;go_wp2_with fail;have j:=yf (x:=0) (A:=none) (k:=0) (c:=0) (s:=false) (y:=0) (B:=none) (k' :=0) (c' :=0) (t:=false) U.o;have e0:=j.cell 0;have m:=j.cell 1;have z:=j.cell 2;have D:=j.cell 3;have C:=j.cell 4;have r:=j.cell 5;simp only [World.rat] at e0 m z D C r;simp at e0 m z D C r;refine bodyPost_ret (v:=.tuple #[.agg #[.int .i64 0,.slice none 0 0,.bool false,.int .i64 0,.slice none 0 0,.bool false],.bool false]) (by simp [results,results29,go_sem,e0,m,z,D,C,r]) rfl ?_;exact xQ.no E.o ⟨_,_,_,_,_,_,_,_,_,_,rfl⟩ (yq (x:=0) (A:=none) (k:=0) (c:=0) (s:=false) (y:=0) (B:=none) (k' :=0) (c' :=0) (t:=false) ac.o (uA))
     | false=>
       cases bh with
       | false=>
         have E:=ze (Vu ak.o (fun h=>by rw [<- HN.o] at h;cases h) HI.o.symm);have HC:=ze (ZZ ak.o);rw [<- HN.o] at E;have ay:=ze (show a.size<=50000 by rw [<- zq,HA.o];exact HC.o.2);clear za M zc L;go_wp2_with fail;refine (Yb a _ (by rw [HA.o];exact HC.o.1) ay.o).mono ?_;rintro e w2 ⟨v,rfl,hv,ad⟩;rw [HA.o] at hv;have HV:=ze hv;have J:=ze (U.o.below ad lR);have ar:=ze (ext ac.o ad);clear hv ad r0 r1 r2 r3 r4 r5 f0 f1 f2 f3 f4 f5;go_wp2_with fail;refine (yh false v _ w2 HV.o).mono ?_;rintro e w3 ⟨v3,rfl,ae,K⟩;obtain ⟨x',A',k',c',aa,rfl,_,_,_⟩:=ae.form;have G:=zf w3 (.cells #[.int .i64 x',.slice A' k' c',.bool aa] 60);have ah:=ze (ae.below G);have F:=(J.o.below K J.o.lt).below G (J.o.below K J.o.lt).lt;have aj:=ze (ext (ext ar.o K) G);have af:=ze F;have r0:=F.cell 0;have r1:=F.cell 1;have r2:=F.cell 2;have r3:=F.cell 3;have r4:=F.cell 4;have r5:=F.cell 5;obtain ⟨f0,f1,f2,f3,f4⟩:=fp5 F
         have f5:=F.frozen 5;simp at r0 r1 r2 r3 r4 r5;have kX:=Blk.new w3 60 #[.int .i64 x',.slice A' k' c',.bool aa];obtain ⟨g0,g1,g2,_⟩:=bp3 kX;clear K ae G F kX lR;go_wp2_with fail;have ab:=yf (x:=x') (A:=A') (k:=k') (c:=c') (s:=aa) (y:=1) (B:=none) (k' :=0) (c' :=0) (t:=false) af.o;have e0:=ab.cell 0;have m:=ab.cell 1;have z:=ab.cell 2;have D:=ab.cell 3;have C:=ab.cell 4;have r:=ab.cell 5;simp only [World.rat] at e0 m z D C r;simp at e0 m z D C r;refine bodyPost_ret (v:=.tuple #[.agg #[.int .i64 x',.slice A' k' c',.bool aa,.int .i64 1,.slice none 0 0,.bool false],.bool true]) (by simp [results,results29,go_sem,e0,m,z,D,C,r]) rfl ?_;refine xQ.yes E.o ⟨_,_,_,_,_,_,_,_,_,_,rfl,?_,?_⟩ (yq aj.o (uA))
         . rw [(Y5 _ _).1]
           exact yk ah.o af.o
         rw [(Y5 _ _).2]
         exact zg7 _
       | true=>
         cases hpb2:yc (bts b) with
         | false=>
           have E:=ze (Z1 HI.o.symm (.inl (by have:=HB.o;rw [if_pos rfl] at this;rw [<- this];exact hpb2)));rw [hpb2] at L;clear hpb2 za M zc;go_wp2_with fail;refine (L _).mono ?_;rintro e w2 ⟨rfl,rfl⟩;go_wp2_with fail;have j:=yf (x:=0) (A:=none) (k:=0) (c:=0) (s:=false) (y:=0) (B:=none) (k' :=0) (c' :=0) (t:=false) U.o;have e0:=j.cell 0;have m:=j.cell 1;have z:=j.cell 2;have D:=j.cell 3;have C:=j.cell 4;have r:=j.cell 5;simp only [World.rat] at e0 m z D C r;simp at e0 m z D C r;refine bodyPost_ret (v:=.tuple #[.agg #[.int .i64 0,.slice none 0 0,.bool false,.int .i64 0,.slice none 0 0,.bool false],.bool false]) (by simp [results,results29,go_sem,e0,m,z,D,C,r]) rfl ?_;exact xQ.no E.o ⟨_,_,_,_,_,_,_,_,_,_,rfl⟩ (yq (x:=0) (A:=none) (k:=0) (c:=0) (s:=false) (y:=0) (B:=none) (k' :=0) (c' :=0) (t:=false) ac.o (uA))
         | true=>
           have au:=ze hpb2;rw [hpb2] at L;clear hpb2
           cases zb1:(b.toList == [48]) with
           | true=>
             have E:=ze (Z1 HI.o.symm (.inr (.inl (by have:=HB.o;rw [if_pos rfl] at this;rw [<- this];exact uG (M.symm.trans zb1)))));clear za M zc;go_wp2_with fail;refine (L _).mono ?_;rintro e w2 ⟨rfl,rfl⟩;go_wp2_with fail;have j:=yf (x:=0) (A:=none) (k:=0) (c:=0) (s:=false) (y:=0) (B:=none) (k' :=0) (c' :=0) (t:=false) U.o;have e0:=j.cell 0;have m:=j.cell 1;have z:=j.cell 2;have D:=j.cell 3;have C:=j.cell 4;have r:=j.cell 5;simp only [World.rat] at e0 m z D C r;simp at e0 m z D C r;refine bodyPost_ret (v:=.tuple #[.agg #[.int .i64 0,.slice none 0 0,.bool false,.int .i64 0,.slice none 0 0,.bool false],.bool false]) (by simp [results,results29,go_sem,e0,m,z,D,C,r]) rfl ?_;exact xQ.no E.o ⟨_,_,_,_,_,_,_,_,_,_,rfl⟩ (yq (x:=0) (A:=none) (k:=0) (c:=0) (s:=false) (y:=0) (B:=none) (k' :=0) (c' :=0) (t:=false) ac.o (uA))
           | false=>
             cases zc1:(b.toList == [49]) with
             | true=>
               have E:=ze (Z1 HI.o.symm (.inr (.inr (.inl (by have:=HB.o;rw [if_pos rfl] at this;rw [<- this];exact uG (zc.symm.trans zc1))))));clear za M zc;go_wp2_with fail;refine (L _).mono ?_;rintro e w2 ⟨rfl,rfl⟩;go_wp2_with fail;have j:=yf (x:=0) (A:=none) (k:=0) (c:=0) (s:=false) (y:=0) (B:=none) (k' :=0) (c' :=0) (t:=false) U.o;have e0:=j.cell 0;have m:=j.cell 1;have z:=j.cell 2;have D:=j.cell 3;have C:=j.cell 4;have r:=j.cell 5;simp only [World.rat] at e0 m z D C r;simp at e0 m z D C r;refine bodyPost_ret (v:=.tuple #[.agg #[.int .i64 0,.slice none 0 0,.bool false,.int .i64 0,.slice none 0 0,.bool false],.bool false]) (by simp [results,results29,go_sem,e0,m,z,D,C,r]) rfl ?_;exact xQ.no E.o ⟨_,_,_,_,_,_,_,_,_,_,rfl⟩ (yq (x:=0) (A:=none) (k:=0) (c:=0) (s:=false) (y:=0) (B:=none) (k' :=0) (c' :=0) (t:=false) ac.o (uA))
             | false=>
               have ag:=ze (show bts b=yy 47 (zp (bts s)) by rw [HB.o];rfl);have HD:=ze (ZZ au.o);have E:=ze (zgc ak.o (fun h=>by rw [<- HN.o] at h;cases h) HI.o.symm (by rw [<- ag.o];exact au.o) (fun h=>by have:=M.symm.trans zb1;rw [uE (ag.o.trans h)] at this;cases this) (fun h=>by have:=zc.symm.trans zc1;rw [uE (ag.o.trans h)] at this;cases this));have aG:=ze (XP (l:=yy 47 (zp (bts s))) (by rw [<- ag.o];exact au.o) (fun h=>by have:=M.symm.trans zb1;rw [uE (ag.o.trans h)] at this;cases this));have aq:=ze (Vj (l:=yy 47 (zp (bts s))) (by rw [<- ag.o];exact au.o));have aR:=ze (Vj ak.o);have HC:=ze (ZZ ak.o);rw [<- HN.o] at E;have ay:=ze (show a.size<=50000 by rw [<- zq,HA.o];exact HC.o.2);have bj:=ze (show b.size<=50000 by rw [<- zq];exact HD.o.2);clear za M zc;go_wp2_with fail;refine (L _).mono ?_;rintro e w2 ⟨rfl,rfl⟩;clear L;obtain ⟨dn,hdn⟩:=uQ (zR (yy 47 (zp (bts s))));obtain ⟨nn,az⟩:=uQ (zR (ahead 47 (zp (bts s))));rw [<- hdn, <- az] at E
               rw [<- hdn] at aG aq;rw [<- az] at aR;have a2:=ze hdn;have be:=ze az;clear hdn az;go_wp2_with fail;refine (Yb a _ (by rw [HA.o];exact HC.o.1) ay.o).mono ?_;rintro e w2 ⟨v,rfl,hv,ad⟩;rw [HA.o, <- be.o] at hv;have HV:=ze hv;have J:=ze (U.o.below ad lR);have ar:=ze (ext ac.o ad);clear hv ad r0 r1 r2 r3 r4 r5 f0 f1 f2 f3 f4 f5;go_wp2_with fail;refine (yh false v _ w2 HV.o).mono ?_;rintro e w3 ⟨v3,rfl,ae,K⟩;obtain ⟨x',A',k',c',aa,rfl,_,_,_⟩:=ae.form;have G:=zf w3 (.cells #[.int .i64 x',.slice A' k' c',.bool aa] 60);have ah:=ze (ae.below G);have F:=(J.o.below K J.o.lt).below G (J.o.below K J.o.lt).lt;have aj:=ze (ext (ext ar.o K) G);have af:=ze F;have kX:=Blk.new w3 60 #[.int .i64 x',.slice A' k' c',.bool aa];have ap:=ze kX;have aX:w.heap.size<w3.heap.size:=(J.o.below K J.o.lt).lt;clear K ae G F kX lR;go_wp2_with fail;generalize a3:w3.heap.size=gx at ap aX |-;generalize w3.alloc (.cells #[.int .i64 x',.slice A' k' c',.bool aa] 60)=W3 at ah af aj ap |-
               clear a3;refine (Yb b _ HD.o.1 bj.o).mono ?_;rintro e w4 ⟨v4,rfl,aE,G⟩;rw [ag.o, <- a2.o] at aE;have bd:=ze aE;have aS:=ze (ah.o.below G);have am:=ze (af.o.below G af.o.lt);have aM:=ze (ap.o.below G ap.o.lt);have aT:=ze (ext aj.o G);clear aE G;go_wp2_with fail;refine (yh false v4 _ w4 bd.o).mono ?_;rintro e w5 ⟨v5,rfl,aF,aK⟩;obtain ⟨y',B',m',d',an,rfl,_,_,_⟩:=aF.form;have aI:=zf w5 (.cells #[.int .i64 y',.slice B' m' d',.bool an] 60);have N:=ext aK aI;have ax:=ze (aF.below aI);have aB:=ze (aS.o.below N);have ai:=ze (am.o.below N am.o.lt);have aC:=ze (aM.o.below N aM.o.lt);have aJ:=ze (ext aT.o N);have ao:=ze (Blk.new w5 60 #[.int .i64 y',.slice B' m' d',.bool an]);have bi:w.heap.size<w5.heap.size:=(am.o.below aK am.o.lt).lt;obtain ⟨x0,x1,x2,_⟩:=bq3 aC;clear aK aI N aF;go_wp2_with fail;generalize bg:w5.heap.size=gy at ao bi |-
               generalize w5.alloc (.cells #[.int .i64 y',.slice B' m' d',.bool an] 60)=W5 at ax aB ai aC aJ ao x0 x1 x2 |-;clear bg;refine (ZG _ _ (signed false nn) (signed false dn) _ aB.o ax.o (by have:=aG.o;unfold signed;simp;omega) (uC (vi aR.o) (by omega)) (uC (vi aq.o) (by omega))).mono ?_;rintro e w6 ⟨v6,rfl,hq,aN⟩;rw [Yj] at hq;obtain ⟨q,aH⟩:=uQ (Ye false nn dn);rw [<- aH] at hq E;obtain ⟨R,Q,T,Z,O,x6,V,Y,S,X,rfl,aV,aQ⟩:=hq;have av:=zf w6 (.cells #[.int .i64 R,.slice Q T Z,.bool O,.int .i64 x6,.slice V Y S,.bool X] 62);have N:=ext aN av;have aA:=ze (aV.below av);have aL:=ze (aQ.below av);have aD:=ze (ax.o.below N);have aU:=ze (show Yt _ w.heap.size from ⟨_,_,_,_,_,_,_,_,_,_,ai.o.below N ai.o.lt⟩);have aO:=ze (ao.o.below N ao.o.lt);have aW:=ze (ext aJ.o N);have aw:=ze (Blk.new w6 62 #[.int .i64 R,.slice Q T Z,.bool O,.int .i64 x6,.slice V Y S,.bool X]);have aZ:w.heap.size<w6.heap.size:=(ai.o.below aN ai.o.lt).lt
               have a0:=ze (show len 4294967296 (q.den:Int).natAbs<=67108864 by
                rw [aH, <- Yj];have h9:=Xm (zn:=signed false nn) (zd:=signed false dn) (by have:=aG.o;unfold signed;simp;omega) (uC (vi aq.o) (by omega));rw [h9.2.1]
                refine uC (Yp (by omega) (Int.natAbs_tdiv_le_natAbs _ _)) (uC (vi aq.o) (by omega)))
               clear aN av N aV aQ x0 x1 x2 ap aM aC af am ai ao ah aS aB ax ac ar aj aT aJ U J aH;go_wp2_with fail;generalize aY:w6.heap.size=gq at aw aZ |-;generalize w6.alloc (.cells #[.int .i64 R,.slice Q T Z,.bool O,.int .i64 x6,.slice V Y S,.bool X] 62)=W7 at aA aL aD aU aO aW aw |-;clear aY;have br:=aw.o.lt;have bv:=aO.o.lt;obtain ⟨q0,q1,q2,q3,q4,q5,_⟩:=bq6 aw;obtain ⟨y0,y1,y2,_⟩:=bq3 aO;have a1:=ze (show Yt W7.drew w.heap.size from aU.o);have bc:=ze (show Below w.heap.size w W7.drew from zt aW.o 1);have a9:=ze (show zM W7.drew _ q.num from aA.o.below (yI W7 1));have bf:=ze (show zM W7.drew _ (q.den:Int) from aL.o.below (yI W7 1));have a7:=ze (show zM W7.drew _ (signed false dn) from aD.o.below (yI W7 1));clear aA aL aD
               go_region_held3 (fun w' =>w'.cell? ⟨gq,0,none⟩=some (.int .i64 R)/\w'.cell? ⟨gq,1,none⟩=some (.slice Q T Z)/\w'.cell? ⟨gq,2,none⟩=some (.bool O)/\w'.cell? ⟨gq,3,none⟩=some (.int .i64 x6)/\w'.cell? ⟨gq,4,none⟩=some (.slice V Y S)/\w'.cell? ⟨gq,5,none⟩=some (.bool X)/\
                w'.cell? ⟨gy,0,none⟩=some (.int .i64 y')/\w'.cell? ⟨gy,1,none⟩=some (.slice B' m' d')/\w'.cell? ⟨gy,2,none⟩=some (.bool an)/\gq<w'.heap.size/\gy<w'.heap.size/\Hid (Yt w' w.heap.size)/\Hid (Below w.heap.size w w')/\Hid (zM w' (.agg #[.int .i64 R,.slice Q T Z,.bool O]) q.num)/\Hid (zM w' (.agg #[.int .i64 x6,.slice V Y S,.bool X]) (q.den:Int))/\Hid (zM w' (.agg #[.int .i64 y',.slice B' m' d',.bool an]) (signed false dn)))
                (first
                  | with_reducible exact ⟨by go_keep,by go_keep,by go_keep,by go_keep,by go_keep,by go_keep,by go_keep,by go_keep,by go_keep,by first | (simp;done) | (simp;assumption),by first | (simp;done) | (simp;assumption),a1,bc,a9,bf,a7⟩
                  | (go_split_ands;with_reducible exact ⟨zv (by omega) ‹_›,zv (by omega) ‹_›,zv (by omega) ‹_›,zv (by omega) ‹_›,zv (by omega) ‹_›,zv (by omega) ‹_›,zv (by omega) ‹_›,zv (by omega) ‹_›,zv (by omega) ‹_›,vI ‹_›,vI ‹_›,vR ‹_›,xU (by omega) ‹_›,Zw ‹_› ‹_›,Zw ‹_› ‹_›,Zw ‹_› ‹_›⟩)
                  | (go_split_ands;with_reducible exact ⟨zh ‹_› ‹_› ‹_›,zh ‹_› ‹_› ‹_›,zh ‹_› ‹_› ‹_›,zh ‹_› ‹_› ‹_›,zh ‹_› ‹_› ‹_›,zh ‹_› ‹_› ‹_›,zh ‹_› ‹_› ‹_›,zh ‹_› ‹_› ‹_›,zh ‹_› ‹_› ‹_›,zU ‹_› ‹_›,zU ‹_› ‹_›,Zm ‹_› ‹_›,zo ‹_› ‹_›,VE ‹_› ‹_›,VE ‹_› ‹_›,VE ‹_› ‹_›⟩)
                  | go_keep)
                (first
                  | (go_at_call 65;refine (zeh _ _ (q.den:Int) (signed false dn) _ (zO (by go_split_ands;assumption)) (zO (by go_split_ands;assumption)) a0.o (uC (vi aq.o) (by omega))).mono ?_;rintro e wo ⟨rfl,a6⟩;obtain ⟨xr,Ar,kr,cr,sr,yr,Br,bu,bs,tr,I⟩:=(Zm (g:=w.heap.size) a6 (by go_split_ands;assumption)).out;have r0:=I.cell 0;have r1:=I.cell 1;have r2:=I.cell 2;have r3:=I.cell 3;have r4:=I.cell 4;have r5:=I.cell 5;have f0:=I.frozen 0;have f1:=I.frozen 1;have f2:=I.frozen 2;have f3:=I.frozen 3;have f4:=I.frozen 4;have f5:=I.frozen 5;simp at r0 r1 r2 r3 r4 r5;have U:=ze I;clear I))
               all_goals
                go_split_ands;have j:=yf (x:=R) (A:=Q) (k:=T) (c:=Z) (s:=O) (y:=x6) (B:=V) (k' :=Y) (c' :=S) (t:=X) U.o;have bk:=zO (by assumption:Hid (zM (World.rat wo w.heap.size R Q T Z O x6 V Y S X) (.agg #[.int .i64 R,.slice Q T Z,.bool O]) q.num));have a8:=zO (by assumption:Hid (zM (World.rat wo w.heap.size R Q T Z O x6 V Y S X) (.agg #[.int .i64 x6,.slice V Y S,.bool X]) (q.den:Int)));have bb:=zO (by assumption:Hid (Below w.heap.size w (World.rat wo w.heap.size R Q T Z O x6 V Y S X)));have e0:=j.cell 0;have m:=j.cell 1;have z:=j.cell 2;have D:=j.cell 3;have C:=j.cell 4;have r:=j.cell 5;simp only [World.rat] at e0 m z D C r;simp at e0 m z D C r;go_wp2;refine bodyPost_ret (v:=.tuple #[.agg #[.int .i64 R,.slice Q T Z,.bool O,.int .i64 x6,.slice V Y S,.bool X],.bool (yj (q.den:Int) (signed false dn) == 0)]) (by simp [results,results29,go_sem,e0,m,z,D,C,r]) rfl ?_;exact xQ.maybe E.o ⟨_,_,_,_,_,_,_,_,_,_,rfl,bk,a8⟩ bb
   | true=>
     cases za1:(a.toList == [48]) with
     | true=>
       have E:=ze (zp5 HN.o.symm (uG (by rw [<- za];exact za1)));clear za M zc L;go_wp2_with fail;have j:=yf (x:=0) (A:=none) (k:=0) (c:=0) (s:=false) (y:=0) (B:=none) (k' :=0) (c' :=0) (t:=false) U.o;have e0:=j.cell 0;have m:=j.cell 1;have z:=j.cell 2;have D:=j.cell 3;have C:=j.cell 4;have r:=j.cell 5;simp only [World.rat] at e0 m z D C r;simp at e0 m z D C r;refine bodyPost_ret (v:=.tuple #[.agg #[.int .i64 0,.slice none 0 0,.bool false,.int .i64 0,.slice none 0 0,.bool false],.bool false]) (by simp [results,results29,go_sem,e0,m,z,D,C,r]) rfl ?_;exact xQ.no E.o ⟨_,_,_,_,_,_,_,_,_,_,rfl⟩ (yq (x:=0) (A:=none) (k:=0) (c:=0) (s:=false) (y:=0) (B:=none) (k' :=0) (c' :=0) (t:=false) ac.o (uA))
     | false=>
       cases bh with
       | false=>
         have E:=ze (Vu ak.o (fun _ h=>by have:=za.symm.trans za1;rw [uE h] at this;cases this) HI.o.symm);have HC:=ze (ZZ ak.o);rw [<- HN.o] at E;have ay:=ze (show a.size<=50000 by rw [<- zq,HA.o];exact HC.o.2);clear za M zc L;go_wp2_with fail;refine (Yb a _ (by rw [HA.o];exact HC.o.1) ay.o).mono ?_;rintro e w2 ⟨v,rfl,hv,ad⟩;rw [HA.o] at hv;have HV:=ze hv;have J:=ze (U.o.below ad lR);have ar:=ze (ext ac.o ad);clear hv ad r0 r1 r2 r3 r4 r5 f0 f1 f2 f3 f4 f5;go_wp2_with fail;refine (yh true v _ w2 HV.o).mono ?_;rintro e w3 ⟨v3,rfl,ae,K⟩;obtain ⟨x',A',k',c',aa,rfl,_,_,_⟩:=ae.form;have G:=zf w3 (.cells #[.int .i64 x',.slice A' k' c',.bool aa] 60);have ah:=ze (ae.below G);have F:=(J.o.below K J.o.lt).below G (J.o.below K J.o.lt).lt;have aj:=ze (ext (ext ar.o K) G);have af:=ze F;have r0:=F.cell 0;have r1:=F.cell 1;have r2:=F.cell 2;have r3:=F.cell 3;have r4:=F.cell 4;have r5:=F.cell 5;obtain ⟨f0,f1,f2⟩:=fp3 F
         have f3:=F.frozen 3;have f4:=F.frozen 4;have f5:=F.frozen 5;simp at r0 r1 r2 r3 r4 r5;have kX:=Blk.new w3 60 #[.int .i64 x',.slice A' k' c',.bool aa];obtain ⟨g0,g1,g2,_⟩:=bp3 kX;clear K ae G F kX lR;go_wp2_with fail;have ab:=yf (x:=x') (A:=A') (k:=k') (c:=c') (s:=aa) (y:=1) (B:=none) (k' :=0) (c' :=0) (t:=false) af.o;have e0:=ab.cell 0;have m:=ab.cell 1;have z:=ab.cell 2;have D:=ab.cell 3;have C:=ab.cell 4;have r:=ab.cell 5;simp only [World.rat] at e0 m z D C r;simp at e0 m z D C r;refine bodyPost_ret (v:=.tuple #[.agg #[.int .i64 x',.slice A' k' c',.bool aa,.int .i64 1,.slice none 0 0,.bool false],.bool true]) (by simp [results,results29,go_sem,e0,m,z,D,C,r]) rfl ?_;refine xQ.yes E.o ⟨_,_,_,_,_,_,_,_,_,_,rfl,?_,?_⟩ (yq aj.o (uA))
         . rw [(Y5 _ _).1]
           exact yk ah.o af.o
         rw [(Y5 _ _).2]
         exact zg7 _
       | true=>
         cases hpb2:yc (bts b) with
         | false=>
           have E:=ze (Z1 HI.o.symm (.inl (by have:=HB.o;rw [if_pos rfl] at this;rw [<- this];exact hpb2)));rw [hpb2] at L;clear hpb2 za M zc;go_wp2_with fail;refine (L _).mono ?_;rintro e w2 ⟨rfl,rfl⟩;go_wp2_with fail;have j:=yf (x:=0) (A:=none) (k:=0) (c:=0) (s:=false) (y:=0) (B:=none) (k' :=0) (c' :=0) (t:=false) U.o;have e0:=j.cell 0;have m:=j.cell 1;have z:=j.cell 2;have D:=j.cell 3;have C:=j.cell 4;have r:=j.cell 5;simp only [World.rat] at e0 m z D C r;simp at e0 m z D C r;refine bodyPost_ret (v:=.tuple #[.agg #[.int .i64 0,.slice none 0 0,.bool false,.int .i64 0,.slice none 0 0,.bool false],.bool false]) (by simp [results,results29,go_sem,e0,m,z,D,C,r]) rfl ?_;exact xQ.no E.o ⟨_,_,_,_,_,_,_,_,_,_,rfl⟩ (yq (x:=0) (A:=none) (k:=0) (c:=0) (s:=false) (y:=0) (B:=none) (k' :=0) (c' :=0) (t:=false) ac.o (uA))
         | true=>
           have au:=ze hpb2;rw [hpb2] at L;clear hpb2
           cases zb1:(b.toList == [48]) with
           | true=>
             have E:=ze (Z1 HI.o.symm (.inr (.inl (by have:=HB.o;rw [if_pos rfl] at this;rw [<- this];exact uG (M.symm.trans zb1)))));clear za M zc;go_wp2_with fail;refine (L _).mono ?_;rintro e w2 ⟨rfl,rfl⟩;go_wp2_with fail;have j:=yf (x:=0) (A:=none) (k:=0) (c:=0) (s:=false) (y:=0) (B:=none) (k' :=0) (c' :=0) (t:=false) U.o;have e0:=j.cell 0;have m:=j.cell 1;have z:=j.cell 2;have D:=j.cell 3;have C:=j.cell 4;have r:=j.cell 5;simp only [World.rat] at e0 m z D C r;simp at e0 m z D C r;refine bodyPost_ret (v:=.tuple #[.agg #[.int .i64 0,.slice none 0 0,.bool false,.int .i64 0,.slice none 0 0,.bool false],.bool false]) (by simp [results,results29,go_sem,e0,m,z,D,C,r]) rfl ?_;exact xQ.no E.o ⟨_,_,_,_,_,_,_,_,_,_,rfl⟩ (yq (x:=0) (A:=none) (k:=0) (c:=0) (s:=false) (y:=0) (B:=none) (k' :=0) (c' :=0) (t:=false) ac.o (uA))
           | false=>
             cases zc1:(b.toList == [49]) with
             | true=>
               have E:=ze (Z1 HI.o.symm (.inr (.inr (.inl (by have:=HB.o;rw [if_pos rfl] at this;rw [<- this];exact uG (zc.symm.trans zc1))))));clear za M zc;go_wp2_with fail;refine (L _).mono ?_;rintro e w2 ⟨rfl,rfl⟩;go_wp2_with fail;have j:=yf (x:=0) (A:=none) (k:=0) (c:=0) (s:=false) (y:=0) (B:=none) (k' :=0) (c' :=0) (t:=false) U.o;have e0:=j.cell 0;have m:=j.cell 1;have z:=j.cell 2;have D:=j.cell 3;have C:=j.cell 4;have r:=j.cell 5;simp only [World.rat] at e0 m z D C r;simp at e0 m z D C r;refine bodyPost_ret (v:=.tuple #[.agg #[.int .i64 0,.slice none 0 0,.bool false,.int .i64 0,.slice none 0 0,.bool false],.bool false]) (by simp [results,results29,go_sem,e0,m,z,D,C,r]) rfl ?_;exact xQ.no E.o ⟨_,_,_,_,_,_,_,_,_,_,rfl⟩ (yq (x:=0) (A:=none) (k:=0) (c:=0) (s:=false) (y:=0) (B:=none) (k' :=0) (c' :=0) (t:=false) ac.o (uA))
             | false=>
               have ag:=ze (show bts b=yy 47 (zp (bts s)) by rw [HB.o];rfl);have HD:=ze (ZZ au.o);have E:=ze (zgc ak.o (fun _ h=>by have:=za.symm.trans za1;rw [uE h] at this;cases this) HI.o.symm (by rw [<- ag.o];exact au.o) (fun h=>by have:=M.symm.trans zb1;rw [uE (ag.o.trans h)] at this;cases this) (fun h=>by have:=zc.symm.trans zc1;rw [uE (ag.o.trans h)] at this;cases this));have aG:=ze (XP (l:=yy 47 (zp (bts s))) (by rw [<- ag.o];exact au.o) (fun h=>by have:=M.symm.trans zb1;rw [uE (ag.o.trans h)] at this;cases this));have aq:=ze (Vj (l:=yy 47 (zp (bts s))) (by rw [<- ag.o];exact au.o));have aR:=ze (Vj ak.o);have HC:=ze (ZZ ak.o);rw [<- HN.o] at E;have ay:=ze (show a.size<=50000 by rw [<- zq,HA.o];exact HC.o.2);have bj:=ze (show b.size<=50000 by rw [<- zq];exact HD.o.2);clear za M zc;go_wp2_with fail;refine (L _).mono ?_;rintro e w2 ⟨rfl,rfl⟩;clear L;obtain ⟨dn,hdn⟩:=uQ (zR (yy 47 (zp (bts s))))
               obtain ⟨nn,az⟩:=uQ (zR (ahead 47 (zp (bts s))));rw [<- hdn, <- az] at E;rw [<- hdn] at aG aq;rw [<- az] at aR;have a2:=ze hdn;have be:=ze az;clear hdn az;go_wp2_with fail;refine (Yb a _ (by rw [HA.o];exact HC.o.1) ay.o).mono ?_;rintro e w2 ⟨v,rfl,hv,ad⟩;rw [HA.o, <- be.o] at hv;have HV:=ze hv;have J:=ze (U.o.below ad lR);have ar:=ze (ext ac.o ad);clear hv ad r0 r1 r2 r3 r4 r5 f0 f1 f2 f3 f4 f5;go_wp2_with fail;refine (yh true v _ w2 HV.o).mono ?_;rintro e w3 ⟨v3,rfl,ae,K⟩;obtain ⟨x',A',k',c',aa,rfl,_,_,_⟩:=ae.form;have G:=zf w3 (.cells #[.int .i64 x',.slice A' k' c',.bool aa] 60);have ah:=ze (ae.below G);have F:=(J.o.below K J.o.lt).below G (J.o.below K J.o.lt).lt;have aj:=ze (ext (ext ar.o K) G);have af:=ze F;have kX:=Blk.new w3 60 #[.int .i64 x',.slice A' k' c',.bool aa];have ap:=ze kX;have aX:w.heap.size<w3.heap.size:=(J.o.below K J.o.lt).lt;clear K ae G F kX lR;go_wp2_with fail;generalize a3:w3.heap.size=gx at ap aX |-
               generalize w3.alloc (.cells #[.int .i64 x',.slice A' k' c',.bool aa] 60)=W3 at ah af aj ap |-;clear a3;refine (Yb b _ HD.o.1 bj.o).mono ?_;rintro e w4 ⟨v4,rfl,aE,G⟩;rw [ag.o, <- a2.o] at aE;have bd:=ze aE;have aS:=ze (ah.o.below G);have am:=ze (af.o.below G af.o.lt);have aM:=ze (ap.o.below G ap.o.lt);have aT:=ze (ext aj.o G);clear aE G;go_wp2_with fail;refine (yh false v4 _ w4 bd.o).mono ?_;rintro e w5 ⟨v5,rfl,aF,aK⟩;obtain ⟨y',B',m',d',an,rfl,_,_,_⟩:=aF.form;have aI:=zf w5 (.cells #[.int .i64 y',.slice B' m' d',.bool an] 60);have N:=ext aK aI;have ax:=ze (aF.below aI);have aB:=ze (aS.o.below N);have ai:=ze (am.o.below N am.o.lt);have aC:=ze (aM.o.below N aM.o.lt);have aJ:=ze (ext aT.o N);have ao:=ze (Blk.new w5 60 #[.int .i64 y',.slice B' m' d',.bool an]);have bi:w.heap.size<w5.heap.size:=(am.o.below aK am.o.lt).lt;obtain ⟨x0,x1,x2,_⟩:=bq3 aC;clear aK aI N aF
               go_wp2_with fail;generalize bg:w5.heap.size=gy at ao bi |-;generalize w5.alloc (.cells #[.int .i64 y',.slice B' m' d',.bool an] 60)=W5 at ax aB ai aC aJ ao x0 x1 x2 |-;clear bg;refine (ZG _ _ (signed true nn) (signed false dn) _ aB.o ax.o (by have:=aG.o;unfold signed;simp;omega) (uC (vi aR.o) (by omega)) (uC (vi aq.o) (by omega))).mono ?_;rintro e w6 ⟨v6,rfl,hq,aN⟩;rw [Yj] at hq;obtain ⟨q,aH⟩:=uQ (Ye true nn dn);rw [<- aH] at hq E;obtain ⟨R,Q,T,Z,O,x6,V,Y,S,X,rfl,aV,aQ⟩:=hq;have av:=zf w6 (.cells #[.int .i64 R,.slice Q T Z,.bool O,.int .i64 x6,.slice V Y S,.bool X] 62);have N:=ext aN av;have aA:=ze (aV.below av);have aL:=ze (aQ.below av);have aD:=ze (ax.o.below N);have aU:=ze (show Yt _ w.heap.size from ⟨_,_,_,_,_,_,_,_,_,_,ai.o.below N ai.o.lt⟩);have aO:=ze (ao.o.below N ao.o.lt);have aW:=ze (ext aJ.o N);have aw:=ze (Blk.new w6 62 #[.int .i64 R,.slice Q T Z,.bool O,.int .i64 x6,.slice V Y S,.bool X])
               have aZ:w.heap.size<w6.heap.size:=(ai.o.below aN ai.o.lt).lt
               have a0:=ze (show len 4294967296 (q.den:Int).natAbs<=67108864 by
                rw [aH, <- Yj];have h9:=Xm (zn:=signed true nn) (zd:=signed false dn) (by have:=aG.o;unfold signed;simp;omega) (uC (vi aq.o) (by omega));rw [h9.2.1]
                refine uC (Yp (by omega) (Int.natAbs_tdiv_le_natAbs _ _)) (uC (vi aq.o) (by omega)))
               clear aN av N aV aQ x0 x1 x2 ap aM aC af am ai ao ah aS aB ax ac ar aj aT aJ U J aH;go_wp2_with fail;generalize aY:w6.heap.size=gq at aw aZ |-;generalize w6.alloc (.cells #[.int .i64 R,.slice Q T Z,.bool O,.int .i64 x6,.slice V Y S,.bool X] 62)=W7 at aA aL aD aU aO aW aw |-;clear aY;have br:=aw.o.lt;have bv:=aO.o.lt;obtain ⟨q0,q1,q2,q3,q4,q5,_⟩:=bq6 aw;obtain ⟨y0,y1,y2,_⟩:=bq3 aO;have a1:=ze (show Yt W7.drew w.heap.size from aU.o);have bc:=ze (show Below w.heap.size w W7.drew from zt aW.o 1);have a9:=ze (show zM W7.drew _ q.num from aA.o.below (yI W7 1));have bf:=ze (show zM W7.drew _ (q.den:Int) from aL.o.below (yI W7 1));have a7:=ze (show zM W7.drew _ (signed false dn) from aD.o.below (yI W7 1));clear aA aL aD
               go_region_held3 (fun w' =>w'.cell? ⟨gq,0,none⟩=some (.int .i64 R)/\w'.cell? ⟨gq,1,none⟩=some (.slice Q T Z)/\w'.cell? ⟨gq,2,none⟩=some (.bool O)/\w'.cell? ⟨gq,3,none⟩=some (.int .i64 x6)/\w'.cell? ⟨gq,4,none⟩=some (.slice V Y S)/\w'.cell? ⟨gq,5,none⟩=some (.bool X)/\
                w'.cell? ⟨gy,0,none⟩=some (.int .i64 y')/\w'.cell? ⟨gy,1,none⟩=some (.slice B' m' d')/\w'.cell? ⟨gy,2,none⟩=some (.bool an)/\gq<w'.heap.size/\gy<w'.heap.size/\Hid (Yt w' w.heap.size)/\Hid (Below w.heap.size w w')/\Hid (zM w' (.agg #[.int .i64 R,.slice Q T Z,.bool O]) q.num)/\Hid (zM w' (.agg #[.int .i64 x6,.slice V Y S,.bool X]) (q.den:Int))/\Hid (zM w' (.agg #[.int .i64 y',.slice B' m' d',.bool an]) (signed false dn)))
                (first
                  | with_reducible exact ⟨by go_keep,by go_keep,by go_keep,by go_keep,by go_keep,by go_keep,by go_keep,by go_keep,by go_keep,by first | (simp;done) | (simp;assumption),by first | (simp;done) | (simp;assumption),a1,bc,a9,bf,a7⟩
                  | (go_split_ands;with_reducible exact ⟨zv (by omega) ‹_›,zv (by omega) ‹_›,zv (by omega) ‹_›,zv (by omega) ‹_›,zv (by omega) ‹_›,zv (by omega) ‹_›,zv (by omega) ‹_›,zv (by omega) ‹_›,zv (by omega) ‹_›,vI ‹_›,vI ‹_›,vR ‹_›,xU (by omega) ‹_›,Zw ‹_› ‹_›,Zw ‹_› ‹_›,Zw ‹_› ‹_›⟩)
                  | (go_split_ands;with_reducible exact ⟨zh ‹_› ‹_› ‹_›,zh ‹_› ‹_› ‹_›,zh ‹_› ‹_› ‹_›,zh ‹_› ‹_› ‹_›,zh ‹_› ‹_› ‹_›,zh ‹_› ‹_› ‹_›,zh ‹_› ‹_› ‹_›,zh ‹_› ‹_› ‹_›,zh ‹_› ‹_› ‹_›,zU ‹_› ‹_›,zU ‹_› ‹_›,Zm ‹_› ‹_›,zo ‹_› ‹_›,VE ‹_› ‹_›,VE ‹_› ‹_›,VE ‹_› ‹_›⟩)
                  | go_keep)
                (first
                  | (go_at_call 65;refine (zeh _ _ (q.den:Int) (signed false dn) _ (zO (by go_split_ands;assumption)) (zO (by go_split_ands;assumption)) a0.o (uC (vi aq.o) (by omega))).mono ?_;rintro e wo ⟨rfl,a6⟩;obtain ⟨xr,Ar,kr,cr,sr,yr,Br,bu,bs,tr,I⟩:=(Zm (g:=w.heap.size) a6 (by go_split_ands;assumption)).out;have r0:=I.cell 0;have r1:=I.cell 1;have r2:=I.cell 2;have r3:=I.cell 3;have r4:=I.cell 4;have r5:=I.cell 5;have f0:=I.frozen 0;have f1:=I.frozen 1;have f2:=I.frozen 2;have f3:=I.frozen 3;have f4:=I.frozen 4;have f5:=I.frozen 5;simp at r0 r1 r2 r3 r4 r5;have U:=ze I;clear I))
               all_goals
                go_split_ands;have j:=yf (x:=R) (A:=Q) (k:=T) (c:=Z) (s:=O) (y:=x6) (B:=V) (k' :=Y) (c' :=S) (t:=X) U.o;have bk:=zO (by assumption:Hid (zM (World.rat wo w.heap.size R Q T Z O x6 V Y S X) (.agg #[.int .i64 R,.slice Q T Z,.bool O]) q.num));have a8:=zO (by assumption:Hid (zM (World.rat wo w.heap.size R Q T Z O x6 V Y S X) (.agg #[.int .i64 x6,.slice V Y S,.bool X]) (q.den:Int)));have bb:=zO (by assumption:Hid (Below w.heap.size w (World.rat wo w.heap.size R Q T Z O x6 V Y S X)));have e0:=j.cell 0;have m:=j.cell 1;have z:=j.cell 2;have D:=j.cell 3;have C:=j.cell 4;have r:=j.cell 5;simp only [World.rat] at e0 m z D C r;simp at e0 m z D C r;go_wp2;refine bodyPost_ret (v:=.tuple #[.agg #[.int .i64 R,.slice Q T Z,.bool O,.int .i64 x6,.slice V Y S,.bool X],.bool (yj (q.den:Int) (signed false dn) == 0)]) (by simp [results,results29,go_sem,e0,m,z,D,C,r]) rfl ?_;exact xQ.maybe E.o ⟨_,_,_,_,_,_,_,_,_,_,rfl,bk,a8⟩ bb
theorem zn9 (s:ByteArray) (w:World) (hs:s.size<=1073741824):
 Calls prog 30 #[.string s] w (zij w (.bool (zj (bts s)).isSome)):=by
 have l:=fun w=>Z4 s w hs
 go_in
 go_wp2_with fail
 refine (l _).mono ?_
 rintro e w1 ⟨v,b,rfl,⟨x,A,k,c,u,y,B,k',c',t,rfl⟩,hb,_,j⟩
 have m:=ze hb
 have r:=ze j
 clear hb j l
 go_wp2
 go_ret
 exact ⟨yB m.o.symm,ext r.o (zf _ _)⟩
def ztp (w:World) (la lb:List UInt8) (e:Ending) (w' :World):Prop:=
 ∃ v1 v2 b,e= .returned (.tuple #[v1,v2,.bool b])/\ztk v1/\ztk v2/\b=((zj la).isSome && (zj lb).isSome)/\(∀ q,zj la=some q->zE w' v1 q)/\(∀ q,zj lb=some q->zE w' v2 q)/\Below w.heap.size w w'
theorem zE.stored {W:World} {g:Nat} {v:Value} {q:Rat} {x y x0 y0:Int} {A B A0 B0:Option Addr} {k c k' c' k0 c0 k1 c1:Nat} {s t s0 t0:Bool} {t' :TypeId} (h:zE W v q)
 (hk:Blk W g t' #[.int .i64 x0,.slice A0 k0 c0,.bool s0,.int .i64 y0,.slice B0 k1 c1,.bool t0]):zE (World.rat W g x A k c s y B k' c' t) v q:=by
 obtain ⟨E,z,u,m,C,D,j,l,r,t5,rfl,e,b⟩:=h
 exact ⟨_,_,_,_,_,_,_,_,_,_,rfl,yk e hk,yk b hk⟩
theorem zbp (a b:ByteArray) (w:World) (ha:a.size<=1073741824) (hb:b.size<=1073741824):
 Calls prog 32 #[.string a,.string b] w (ztp w (bts a) (bts b)):=by
 have ap:=fun w=>Z4 a w ha
 have al:=fun w=>Z4 b w hb
 have kA:=(Blk.new w 62 #[.int .i64 0,.slice none 0 0,.bool false,.int .i64 0,.slice none 0 0,.bool false]).alloc (.cells #[.int .i64 0,.slice none 0 0,.bool false,.int .i64 0,.slice none 0 0,.bool false] 62)
 have kB:=Blk.new (w.alloc (.cells #[.int .i64 0,.slice none 0 0,.bool false,.int .i64 0,.slice none 0 0,.bool false] 62)) 62 #[.int .i64 0,.slice none 0 0,.bool false,.int .i64 0,.slice none 0 0,.bool false]
 have hW:=ext (zf w (.cells #[.int .i64 0,.slice none 0 0,.bool false,.int .i64 0,.slice none 0 0,.bool false] 62)) (zf _ (.cells #[.int .i64 0,.slice none 0 0,.bool false,.int .i64 0,.slice none 0 0,.bool false] 62))
 simp only [World.size_alloc] at kB
 go_in
 go_wp2_with fail
 generalize (w.alloc (.cells #[.int .i64 0,.slice none 0 0,.bool false,.int .i64 0,.slice none 0 0,.bool false] 62)).alloc (.cells #[.int .i64 0,.slice none 0 0,.bool false,.int .i64 0,.slice none 0 0,.bool false] 62)=W at kA kB hW |-
 refine (ap _).mono ?_
 rintro e w1 ⟨v1,b1,rfl,⟨N,F,k1,c1,s1,E,L,G,I,K,rfl⟩,aq,ak,ad⟩
 have R:=kA.below ad kA.lt
 have an:=kB.below ad kB.lt
 have a0:=R.cell 0;have a1:=R.cell 1;have a2:=R.cell 2;have a3:=R.cell 3;have a4:=R.cell 4;have a5:=R.cell 5;obtain ⟨f0,f1,f2,f3,f4,f5⟩:=fp6 R;simp at a0 a1 a2 a3 a4 a5
 have aa:=ze (yf (x:=N) (A:=F) (k:=k1) (c:=c1) (s:=s1) (y:=E) (B:=L) (k' :=G) (c' :=I) (t:=K) R)
 have ab:=ze (Vw (g' :=w.heap.size) (x:=N) (A:=F) (k:=k1) (c:=c1) (s:=s1) (y:=E) (B:=L) (k' :=G) (c' :=I) (t:=K) an (by omega))
 have ah:=ze (show ∀ q,zj (bts a)=some q->zE (World.rat w1 w.heap.size N F k1 c1 s1 E L G I K) _ q from fun q hq=>(ak q hq).stored R)
 have ai:=ze (yq (g:=w.heap.size) (x:=N) (A:=F) (k:=k1) (c:=c1) (s:=s1) (y:=E) (B:=L) (k' :=G) (c' :=I) (t:=K) (ext hW ad) (uA))
 have ar:=ze aq
 clear kA kB hW aq ak ad R an ap
 simp only [World.rat] at aa ab ah ai
 go_wp2_with fail
 generalize (((((w1.setCell { block:=w.heap.size,off:=0 } (.int .i64 N)).setCell { block:=w.heap.size,off:=1 } (.slice F k1 c1)).setCell { block:=w.heap.size,off:=2 } (.bool s1)).setCell { block:=w.heap.size,off:=3 } (.int .i64 E)).setCell { block:=w.heap.size,off:=4 } (.slice L G I)).setCell { block:=w.heap.size,off:=5 } (.bool K)=W1 at aa ab ah ai |-
 clear a0 a1 a2 a3 a4 a5 f0 f1 f2 f3 f4 f5
 refine (al _).mono ?_
 rintro e w2 ⟨v2,b2,rfl,⟨u,z,k2,c2,s2,C,D,r,m,l,rfl⟩,ao,au,ac⟩
 have am:=aa.o.below ac aa.o.lt
 have O:=ab.o.below ac ab.o.lt
 have a0:=O.cell 0;have a1:=O.cell 1;have a2:=O.cell 2;have a3:=O.cell 3;have a4:=O.cell 4;have a5:=O.cell 5;obtain ⟨f0,f1,f2,f3,f4,f5⟩:=fp6 O;simp at a0 a1 a2 a3 a4 a5
 have Q:=ze (yf (x:=u) (A:=z) (k:=k2) (c:=c2) (s:=s2) (y:=C) (B:=D) (k' :=r) (c' :=m) (t:=l) O)
 have j:=ze (Vw (g' :=w.heap.size+1) (x:=u) (A:=z) (k:=k2) (c:=c2) (s:=s2) (y:=C) (B:=D) (k' :=r) (c' :=m) (t:=l) am (by omega))
 have ae :=ze (show ∀ q,zj (bts a)=some q->zE (World.rat w2 (w.heap.size+1) u z k2 c2 s2 C D r m l) _ q from fun q hq=>((ah.o q hq).below ac).stored O)
 have ag:=ze (show ∀ q,zj (bts b)=some q->zE (World.rat w2 (w.heap.size+1) u z k2 c2 s2 C D r m l) _ q from fun q hq=>(au q hq).stored O)
 have af:=ze (yq (g:=w.heap.size+1) (x:=u) (A:=z) (k:=k2) (c:=c2) (s:=s2) (y:=C) (B:=D) (k' :=r) (c' :=m) (t:=l) (ext ai.o ac) (by omega))
 have av:=ze ao
 clear ao au ac am O al aa ab ah ai
 simp only [World.rat] at j Q ae ag af
 go_wp2_with fail
 generalize (((((w2.setCell { block:=w.heap.size+1,off:=0 } (.int .i64 u)).setCell { block:=w.heap.size+1,off:=1 } (.slice z k2 c2)).setCell { block:=w.heap.size+1,off:=2 } (.bool s2)).setCell { block:=w.heap.size+1,off:=3 } (.int .i64 C)).setCell { block:=w.heap.size+1,off:=4 } (.slice D r m)).setCell { block:=w.heap.size+1,off:=5 } (.bool l)=W2 at j Q ae ag af |-
 clear a0 a1 a2 a3 a4 a5 f0 f1 f2 f3 f4 f5;have a0:=j.o.cell 0;have a1:=j.o.cell 1;have a2:=j.o.cell 2;have a3:=j.o.cell 3;have a4:=j.o.cell 4;have a5:=j.o.cell 5;obtain ⟨f0,f1,f2,f3,f4,f5⟩:=fq6 j;have d0:=Q.o.cell 0;have d1:=Q.o.cell 1;have d2:=Q.o.cell 2;have d3:=Q.o.cell 3;have d4:=Q.o.cell 4;have d5:=Q.o.cell 5;obtain ⟨g0,g1,g2,g3,g4,g5⟩:=fq6 Q;simp at a0 a1 a2 a3 a4 a5 d0 d1 d2 d3 d4 d5
 cases b1 with
 | true=>
   have HR:=ze (show b2=((zj (bts a)).isSome && (zj (bts b)).isSome) by rw [<- ar.o, <- av.o];rfl)
   go_region
   go_wp2;have aj:=yf (x:=N) (A:=F) (k:=k1) (c:=c1) (s:=s1) (y:=E) (B:=L) (k' :=G) (c' :=I) (t:=K) j.o;have Z:=Vw (g' :=w.heap.size) (x:=N) (A:=F) (k:=k1) (c:=c1) (s:=s1) (y:=E) (B:=L) (k' :=G) (c' :=I) (t:=K) Q.o (by omega);have M:=Vw (g' :=w.heap.size+1) (x:=u) (A:=z) (k:=k2) (c:=c2) (s:=s2) (y:=C) (B:=D) (k' :=r) (c' :=m) (t:=l) aj (by omega);have J:=yf (x:=u) (A:=z) (k:=k2) (c:=c2) (s:=s2) (y:=C) (B:=D) (k' :=r) (c' :=m) (t:=l) Z;have e0:=M.cell 0;have e1:=M.cell 1;have e2:=M.cell 2;have e3:=M.cell 3;have e4:=M.cell 4;have S:=M.cell 5;have U:=J.cell 0;have X:=J.cell 1;have T:=J.cell 2;have h3:=J.cell 3;have V:=J.cell 4;have Y:=J.cell 5;simp only [World.rat] at e0 e1 e2 e3 e4 S U X T h3 V Y;simp at e0 e1 e2 e3 e4 S U X T h3 V Y
   refine bodyPost_ret (v:=.tuple #[.agg #[.int .i64 N,.slice F k1 c1,.bool s1,.int .i64 E,.slice L G I,.bool K],.agg #[.int .i64 u,.slice z k2 c2,.bool s2,.int .i64 C,.slice D r m,.bool l],.bool b2]) (by simp [results,results32,go_sem,e0,e1,e2,e3,e4,S,U,X,T,h3,V,Y]) rfl ?_;have hd:=yI (World.rat (World.rat W2 w.heap.size N F k1 c1 s1 E L G I K) (w.heap.size+1) u z k2 c2 s2 C D r m l) 1;exact ⟨_,_,_,rfl,⟨_,_,_,_,_,_,_,_,_,_,rfl⟩,⟨_,_,_,_,_,_,_,_,_,_,rfl⟩,HR.o,fun q hq=>(((ae.o q hq).stored j.o).stored Z).below hd,fun q hq=>(((ag.o q hq).stored j.o).stored Z).below hd,zt (yq (yq af.o (uA)) (by omega)) 1⟩
 | false=>
   have HR:=ze (show false=((zj (bts a)).isSome && (zj (bts b)).isSome) by rw [<- ar.o];rfl)
   go_region
   go_wp2;have aj:=yf (x:=N) (A:=F) (k:=k1) (c:=c1) (s:=s1) (y:=E) (B:=L) (k' :=G) (c' :=I) (t:=K) j.o;have Z:=Vw (g' :=w.heap.size) (x:=N) (A:=F) (k:=k1) (c:=c1) (s:=s1) (y:=E) (B:=L) (k' :=G) (c' :=I) (t:=K) Q.o (by omega);have M:=Vw (g' :=w.heap.size+1) (x:=u) (A:=z) (k:=k2) (c:=c2) (s:=s2) (y:=C) (B:=D) (k' :=r) (c' :=m) (t:=l) aj (by omega);have J:=yf (x:=u) (A:=z) (k:=k2) (c:=c2) (s:=s2) (y:=C) (B:=D) (k' :=r) (c' :=m) (t:=l) Z;have e0:=M.cell 0;have e1:=M.cell 1;have e2:=M.cell 2;have e3:=M.cell 3;have e4:=M.cell 4;have S:=M.cell 5;have U:=J.cell 0;have X:=J.cell 1;have T:=J.cell 2;have h3:=J.cell 3;have V:=J.cell 4;have Y:=J.cell 5;simp only [World.rat] at e0 e1 e2 e3 e4 S U X T h3 V Y;simp at e0 e1 e2 e3 e4 S U X T h3 V Y
   refine bodyPost_ret (v:=.tuple #[.agg #[.int .i64 N,.slice F k1 c1,.bool s1,.int .i64 E,.slice L G I,.bool K],.agg #[.int .i64 u,.slice z k2 c2,.bool s2,.int .i64 C,.slice D r m,.bool l],.bool false]) (by simp [results,results32,go_sem,e0,e1,e2,e3,e4,S,U,X,T,h3,V,Y]) rfl ?_;have hd:=yI (World.rat (World.rat W2 w.heap.size N F k1 c1 s1 E L G I K) (w.heap.size+1) u z k2 c2 s2 C D r m l) 1;exact ⟨_,_,_,rfl,⟨_,_,_,_,_,_,_,_,_,_,rfl⟩,⟨_,_,_,_,_,_,_,_,_,_,rfl⟩,HR.o,fun q hq=>(((ae.o q hq).stored j.o).stored Z).below hd,fun q hq=>(((ag.o q hq).stored j.o).stored Z).below hd,zt (yq (yq af.o (uA)) (by omega)) 1⟩
end Go.Proofs.YtofmkndhocinmaaGreatDoor
namespace Go.Proofs.YtofmkndhocinmaaGreatDoor
open Proofs.Tryz Go.RowKit Go.Deep
def op2 (f:Rat->Rat->Rat) (la lb:List UInt8):List UInt8×Int:=match zj la,zj lb with
 | some x,some y=>ZQ (f x y)
 | _,_=>([],4)
theorem zls {f:Rat->Rat->Rat} {la lb:List UInt8} (h:((zj la).isSome && (zj lb).isSome)=false):op2 f la lb=([],4):=by
 unfold op2
 cases ha:zj la with
 | none=>rfl
 | some x=>
   cases hb:zj lb with
   | none=>rfl
   | some y=>rw [ha,hb] at h;cases h
theorem zat {la lb:List UInt8} (h:((zj la).isSome && (zj lb).isSome)=true):∃ x y,zj la=some x/\zj lb=some y:=by
 cases ha:zj la with
 | none=>rw [ha] at h;cases h
 | some x=>
   cases hb:zj lb with
   | none=>rw [ha,hb] at h;cases h
   | some y=>exact ⟨x,y,rfl,rfl⟩
theorem zd0 {f:Rat->Rat->Rat} {la lb:List UInt8} {x y:Rat} (ha:zj la=some x) (hb:zj lb=some y):op2 f la lb=ZQ (f x y):=by unfold op2;rw [ha,hb]
theorem YW {l:List UInt8} {q:Rat} (h:zj l=some q):xS 50000 q:=(yR.1 h).2.len
theorem xS.more {M K:Nat} {q:Rat} (h:xS M q) (hM:M<=K):xS K q:=⟨uC h.1 hM,uC h.2 hM⟩
theorem xS.of_dz {e:Nat} {q:Rat} (h:Dz e q):xS (e+1) q:=(Dz.short h (Nat.lt_succ_self e)).len
theorem zkc {l:List UInt8} {q:Rat} (h:zj l=some q):Dz 50000 q:=(yR.1 h).2.sz
theorem zi5 {e f:Nat} {p q:Rat} (hp:Dz e p) (hq:Dz f q) (h:q≠0):Dz (e+f) (p / q):=by
 rw [<- zma _ _ h]
 have b:q.num≠0:=fun e=>h (Rat.num_eq_zero.1 e)
 refine zsg (s:=(p.den:Int)*q.num) (M:=p.num*q.den) (Int.mul_ne_zero (by have:=p.den_nz;omega) b) ?_ ?_ ?_
 . rw [Rat.divInt_eq_div]
   have j:=zhr (Int.mul_ne_zero (show (p.den:Int)≠0 by have:=p.den_nz;omega) b)
   grind
 . rw [Int.natAbs_mul,Nat.pow_add];exact Nat.mul_le_mul hp.1 (by simpa using hq.2)
 . rw [Int.natAbs_mul,Nat.pow_add];exact Nat.mul_le_mul (by simpa using hp.2) hq.1
theorem zk8 (a b:ByteArray) (w:World) (ha:a.size<=1073741824) (hb:b.size<=1073741824):
 Calls prog 27 #[.string a,.string b,.func (.func 34) #[] #[]] w (zom w (op2 (· + ·) (bts a) (bts b))):=by
 have D:=fun w=>zbp a b w ha hb
 go_in
 go_wp2_with fail
 refine (D _).mono ?_
 rintro e w1 ⟨v1,v2,M,rfl,⟨x1,R,k1,c1,s1,N,B1,S,T,U,rfl⟩,⟨x2,A2,k2,c2,s2,y2,B2,X,O,L,rfl⟩,j,C,K,E⟩
 have l:=ext (zf w1 (.cells #[.int .i64 x1,.slice R k1 c1,.bool s1,.int .i64 N,.slice B1 S T,.bool U] 62)) (zf _ (.cells #[.int .i64 x2,.slice A2 k2 c2,.bool s2,.int .i64 y2,.slice B2 X O,.bool L] 62))
 have aa:=ze (show ∀ q,zj (bts a)=some q->zE _ _ q from fun q hq=>(C q hq).below l)
 have Y:=ze (show ∀ q,zj (bts b)=some q->zE _ _ q from fun q hq=>(K q hq).below l)
 have G:=ze (ext E l)
 clear C K E l D
 cases M with
 | false=>
   have m:=ze (zls (f:=(· + ·)) j.symm);clear j;go_wp2;go_ret2;rw [m.o];exact ⟨rfl,G.o⟩
 | true=>
   obtain ⟨x,y,z,u⟩:=zat j.symm;have m:=ze (zd0 (f:=(· + ·)) z u);have B:=ze z;have r:=ze u;clear j z u;go_wp2_with fail;refine (vT _ _ x y _ (aa.o x B.o) (Y.o y r.o) ((YW B.o).more (by omega)) ((YW r.o).more (by omega))).mono ?_;rintro e w2 ⟨v,rfl,I,F⟩;have Z:=ze (show xS 67108864 ((· + ·) x y) from (xS.of_dz (e:=100001) (Dz.add (zkc B.o) (zkc r.o) (by omega))).more (by omega));have HV:=ze I;have V:=ze (ext G.o F);clear I F;go_wp2_with fail;refine (zar v _ w2 HV.o Z.o).mono ?_;rintro e w3 ⟨rfl,J⟩;have Q:=ze J;clear J;go_wp2;go_ret2;rw [m.o];exact ⟨rfl,ext V.o Q.o⟩
theorem zki (a b:ByteArray) (w:World) (ha:a.size<=1073741824) (hb:b.size<=1073741824):
 Calls prog 27 #[.string a,.string b,.func (.func 28) #[] #[]] w (zom w (op2 (· - ·) (bts a) (bts b))):=by
 have D:=fun w=>zbp a b w ha hb
 go_in
 go_wp2_with fail
 refine (D _).mono ?_
 rintro e w1 ⟨v1,v2,M,rfl,⟨x1,R,k1,c1,s1,N,B1,S,T,U,rfl⟩,⟨x2,A2,k2,c2,s2,y2,B2,X,O,L,rfl⟩,j,C,K,E⟩
 have l:=ext (zf w1 (.cells #[.int .i64 x1,.slice R k1 c1,.bool s1,.int .i64 N,.slice B1 S T,.bool U] 62)) (zf _ (.cells #[.int .i64 x2,.slice A2 k2 c2,.bool s2,.int .i64 y2,.slice B2 X O,.bool L] 62))
 have aa:=ze (show ∀ q,zj (bts a)=some q->zE _ _ q from fun q hq=>(C q hq).below l)
 have Y:=ze (show ∀ q,zj (bts b)=some q->zE _ _ q from fun q hq=>(K q hq).below l)
 have G:=ze (ext E l)
 clear C K E l D
 cases M with
 | false=>
   have m:=ze (zls (f:=(· - ·)) j.symm);clear j;go_wp2;go_ret2;rw [m.o];exact ⟨rfl,G.o⟩
 | true=>
   obtain ⟨x,y,z,u⟩:=zat j.symm;have m:=ze (zd0 (f:=(· - ·)) z u);have B:=ze z;have r:=ze u;clear j z u;go_wp2_with fail;refine (zg4 _ _ x y _ (aa.o x B.o) (Y.o y r.o) ((YW B.o).more (by omega)) ((YW r.o).more (by omega))).mono ?_;rintro e w2 ⟨v,rfl,I,F⟩;have Z:=ze (show xS 67108864 ((· - ·) x y) from (xS.of_dz (e:=100001) (Dz.sub (zkc B.o) (zkc r.o) (by omega))).more (by omega));have HV:=ze I;have V:=ze (ext G.o F);clear I F;go_wp2_with fail;refine (zar v _ w2 HV.o Z.o).mono ?_;rintro e w3 ⟨rfl,J⟩;have Q:=ze J;clear J;go_wp2;go_ret2;rw [m.o];exact ⟨rfl,ext V.o Q.o⟩
theorem zdi (a b:ByteArray) (w:World) (ha:a.size<=1073741824) (hb:b.size<=1073741824) (h0:∀ y,zj (bts b)=some y->y≠0):
 Calls prog 27 #[.string a,.string b,.func (.func 31) #[] #[]] w (zom w (op2 (· / ·) (bts a) (bts b))):=by
 have D:=fun w=>zbp a b w ha hb
 go_in
 go_wp2_with fail
 refine (D _).mono ?_
 rintro e w1 ⟨v1,v2,M,rfl,⟨x1,R,k1,c1,s1,N,B1,S,T,U,rfl⟩,⟨x2,A2,k2,c2,s2,y2,B2,X,O,L,rfl⟩,l,C,K,E⟩
 have m:=ext (zf w1 (.cells #[.int .i64 x1,.slice R k1 c1,.bool s1,.int .i64 N,.slice B1 S T,.bool U] 62)) (zf _ (.cells #[.int .i64 x2,.slice A2 k2 c2,.bool s2,.int .i64 y2,.slice B2 X O,.bool L] 62))
 have aa:=ze (show ∀ q,zj (bts a)=some q->zE _ _ q from fun q hq=>(C q hq).below m)
 have Y:=ze (show ∀ q,zj (bts b)=some q->zE _ _ q from fun q hq=>(K q hq).below m)
 have G:=ze (ext E m)
 clear C K E m D
 cases M with
 | false=>
   have r:=ze (zls (f:=(· / ·)) l.symm);clear l;go_wp2;go_ret2;rw [r.o];exact ⟨rfl,G.o⟩
 | true=>
   obtain ⟨x,y,z,u⟩:=zat l.symm;have r:=ze (zd0 (f:=(· / ·)) z u);have B:=ze z;have j:=ze u;clear l z u;go_wp2_with fail;refine (XH _ _ x y _ (aa.o x B.o) (Y.o y j.o) ((YW B.o).more (by omega)) ((YW j.o).more (by omega)) (h0 y j.o)).mono ?_;rintro e w2 ⟨v,rfl,I,F⟩;have Z:=ze (show xS 67108864 ((· / ·) x y) from (xS.of_dz (e:=100001) ((zi5 (zkc B.o) (zkc j.o) (h0 y j.o)).more (by omega))).more (by omega));have HV:=ze I;have V:=ze (ext G.o F);clear I F;go_wp2_with fail;refine (zar v _ w2 HV.o Z.o).mono ?_;rintro e w3 ⟨rfl,J⟩;have Q:=ze J;clear J;go_wp2;go_ret2;rw [r.o];exact ⟨rfl,ext V.o Q.o⟩
theorem zrk (a b:ByteArray) (w:World) (ha:a.size<=1073741824) (hb:b.size<=1073741824):
 Calls prog 14 #[.string a,.string b] w (zom w (op2 (· + ·) (bts a) (bts b))):=by
 have l:=fun w=>zk8 a b w ha hb
 go_in
 go_wp2_with fail
 refine (l _).mono ?_
 rintro e w1 ⟨rfl,j⟩
 have m:=ze j
 clear j l
 go_wp2
 go_ret2
 exact ⟨rfl,m.o⟩
theorem zs6 (a b:ByteArray) (w:World) (ha:a.size<=1073741824) (hb:b.size<=1073741824):
 Calls prog 11 #[.string a,.string b] w (zom w (op2 (· - ·) (bts a) (bts b))):=by
 have l:=fun w=>zki a b w ha hb
 go_in
 go_wp2_with fail
 refine (l _).mono ?_
 rintro e w1 ⟨rfl,j⟩
 have m:=ze j
 clear j l
 go_wp2
 go_ret2
 exact ⟨rfl,m.o⟩
def zsu (la lb:List UInt8):Int×Int:=match zj la,zj lb with
 | some x,some y=>(Y7 x y,0)
 | _,_=>(0,4)
def zuc (w:World) (r:Int×Int) (e:Ending) (w' :World):Prop:=e= .returned (.tuple #[.int .i64 r.1,.int .i64 r.2])/\Below w.heap.size w w'
theorem znn (a b:ByteArray) (w:World) (ha:a.size<=1073741824) (hb:b.size<=1073741824):
 Calls prog 13 #[.string a,.string b] w (zuc w (zsu (bts a) (bts b))):=by
 have B:=fun w=>zbp a b w ha hb
 go_in
 go_wp2_with fail
 refine (B _).mono ?_
 rintro e w1 ⟨v1,v2,K,rfl,⟨x1,N,k1,c1,s1,L,U,O,Q,R,rfl⟩,⟨Y,Z,k2,c2,s2,y2,B2,S,M,J,rfl⟩,j,z,G,C⟩
 have l:=ext (zf w1 (.cells #[.int .i64 x1,.slice N k1 c1,.bool s1,.int .i64 L,.slice U O Q,.bool R] 62)) (zf _ (.cells #[.int .i64 Y,.slice Z k2 c2,.bool s2,.int .i64 y2,.slice B2 S M,.bool J] 62))
 have V:=ze (show ∀ q,zj (bts a)=some q->zE _ _ q from fun q hq=>(z q hq).below l)
 have T:=ze (show ∀ q,zj (bts b)=some q->zE _ _ q from fun q hq=>(G q hq).below l)
 have F:=ze (ext C l)
 clear z G C l B
 cases K with
 | false=>
   have e0:zsu (bts a) (bts b)=(0,4):=by
    unfold zsu
    cases ha:zj (bts a) with
    | none=>rfl
    | some x=>
      cases hb:zj (bts b) with
      | none=>rfl
      | some y=>rw [ha,hb] at j;cases j
   have m:=ze e0;clear j e0;go_wp2;go_ret2;rw [m.o];exact ⟨rfl,F.o⟩
 | true=>
   obtain ⟨x,y,u,r⟩:=zat j.symm;have e0:zsu (bts a) (bts b)=(Y7 x y,0):=by unfold zsu;rw [u,r]
   obtain ⟨m,I,D⟩:=hz3 e0 u r;clear j u r e0;go_wp2_with fail;refine (zbx _ _ x y _ (V.o x I.o) (T.o y D.o) ((YW I.o).more (by omega)) ((YW D.o).more (by omega))).mono ?_;rintro e w2 ⟨rfl,E⟩;have X:=ze E;clear E;go_wp2;go_ret2;rw [m.o];exact ⟨rfl,ext F.o X.o⟩
theorem zhz (a b:ByteArray) (w:World) (ha:a.size<=1073741824) (hb:b.size<=1073741824) (hn:zj (bts a)=none):
 Calls prog 27 #[.string a,.string b,.func (.func 31) #[] #[]] w (zom w (op2 (· / ·) (bts a) (bts b))):=by
 have j:=fun w=>zbp a b w ha hb
 have e0:op2 (· / ·) (bts a) (bts b)=([],4):=by unfold op2;rw [hn]
 rw [e0]
 have J:=ze hn
 clear e0 hn
 go_in
 go_wp2_with fail
 refine (j _).mono ?_
 rintro e w1 ⟨T,U,z,rfl,⟨O,D,k1,c1,s1,B,K,E,F,G,rfl⟩,⟨L,N,k2,c2,s2,Q,R,I,C,u,rfl⟩,m,y,S,l⟩
 have r:=ext (zf w1 (.cells #[.int .i64 O,.slice D k1 c1,.bool s1,.int .i64 B,.slice K E F,.bool G] 62)) (zf _ (.cells #[.int .i64 L,.slice N k2 c2,.bool s2,.int .i64 Q,.slice R I C,.bool u] 62))
 have M:=ze (ext l r)
 rw [J.o] at m
 obtain rfl:z=false:=m
 clear y S l r j
 go_wp2
 go_ret2
 exact ⟨rfl,M.o⟩
def zre (la lb:List UInt8):List UInt8×Int:=match zj la,zj lb with
 | some x,some y=>if y=0 then ([],7) else ZQ (x / y)
 | _,_=>([],4)
theorem zch (q:Rat):(Y7 q 0 == 0)=decide (q=0):=by
 unfold Y7
 by_cases b:q<0
 . rw [if_pos b,uF (by grind)];rfl
 by_cases e:0<q
 . rw [if_neg b,if_pos e,uF (by grind)];rfl
 rw [if_neg b,if_neg e,uE (by grind)];rfl
theorem zs8 (a b:ByteArray) (w:World) (ha:a.size<=1073741824) (hb:b.size<=1073741824):
 Calls prog 12 #[.string a,.string b] w (zom w (zre (bts a) (bts b))):=by
 have E:=fun w=>Z4 b w hb
 have F:=fun w=>zn9 a w ha
 by_cases Z:∃ x,zj (bts a)=some x/\zj (bts b)=some 0
 . obtain ⟨x,m,l⟩:=Z
   have e0:zre (bts a) (bts b)=([],7):=by unfold zre;rw [m,l];simp
   rw [e0];simp only [m,Option.isSome_some] at F;have HY:=ze l;clear e0 m l
   go_in
   go_wp2_with fail;refine (E _).mono ?_;rintro e w1 ⟨v,b',rfl,⟨M,D,k1,c1,s1,C,K,G,I,J,rfl⟩,B,z,u⟩;rw [HY.o] at B;obtain rfl:b' =true:=B;have r:=zf w1 (.cells #[.int .i64 M,.slice D k1 c1,.bool s1,.int .i64 C,.slice K G I,.bool J] 62);have HQ:=ze ((z 0 HY.o).below r);have L:=ze (ext u r);have Y:=Blk.new w1 62 #[.int .i64 M,.slice D k1 c1,.bool s1,.int .i64 C,.slice K G I,.bool J];have U:=ze Y;clear z u r E Y;go_wp2_with fail;refine (F _).mono ?_;rintro e N ⟨rfl,j⟩;have R:=U.o.below j U.o.lt;obtain ⟨b0,b1,b2,b3,b4,b5,_⟩:=bp6 R;have ab:=ze (HQ.o.below j);have S:=ze (ext L.o j);clear j R;go_wp2_with fail;refine (vy _ 0 N ab.o).mono ?_;rintro e w3 ⟨rfl,X⟩;have e1:(Y7 0 0 == 0)=true:=by decide
   have af:=ze X;clear X;go_wp2;go_ret2;exact ⟨rfl,ext S.o af.o⟩
 have O:∀ x y,zj (bts a)=some x->zj (bts b)=some y->y≠0:=fun x y m l e=>Z ⟨x,m,by rw [l,e]⟩
 have e0:zre (bts a) (bts b)=op2 (· / ·) (bts a) (bts b):=by
  unfold zre op2
  cases m:zj (bts a) with
  | none=>rfl
  | some x=>
    cases l:zj (bts b) with
    | none=>rfl
    | some y=>simp only;rw [if_neg (O x y m l)]
 rw [e0];clear e0
 by_cases T:(zj (bts a)).isSome=true
 . obtain ⟨x,m⟩:=Option.isSome_iff_exists.1 T
   have Q:=fun w=>zdi a b w ha hb (fun y l=>O x y m l)
   simp only [T] at F;have H0:=ze (fun y l=>O x y m l);clear O m T Z
   go_in
   go_wp2_with fail;refine (E _).mono ?_;rintro e w1 ⟨v,b',rfl,⟨M,D,k1,c1,s1,C,K,G,I,J,rfl⟩,B,z,u⟩;have r:=zf w1 (.cells #[.int .i64 M,.slice D k1 c1,.bool s1,.int .i64 C,.slice K G I,.bool J] 62);have L:=ze (ext u r)
   cases b' with
   | false=>
     clear B z u r E F;go_wp2_with fail;refine (Q _).mono ?_;rintro e N ⟨rfl,j⟩;have ac:=ze j;clear j;go_wp2;go_ret2;exact ⟨rfl,ext L.o ac.o⟩
   | true=>
     obtain ⟨y,l⟩:=Option.isSome_iff_exists.1 B.symm;have HQ:=ze ((z y l).below r);have HY:=ze (H0.o y l);have Y:=Blk.new w1 62 #[.int .i64 M,.slice D k1 c1,.bool s1,.int .i64 C,.slice K G I,.bool J];have U:=ze Y;clear B z u r E Y l;go_wp2_with fail;refine (F _).mono ?_;rintro e N ⟨rfl,j⟩;have R:=U.o.below j U.o.lt;obtain ⟨b0,b1,b2,b3,b4,b5,_⟩:=bp6 R;have ab:=ze (HQ.o.below j);have S:=ze (ext L.o j);clear j R;go_wp2_with fail;refine (vy _ y N ab.o).mono ?_;rintro e w3 ⟨rfl,X⟩;have e1:(Y7 y 0 == 0)=false:=by rw [zch,uF HY.o]
     have ag:=ze (ext S.o X);clear X;go_wp2_with fail;refine (Q _).mono ?_;rintro e w4 ⟨rfl,V⟩;have ad:=ze V;clear V;go_wp2;go_ret2;exact ⟨rfl,ext ag.o ad.o⟩
 have aa:(zj (bts a)).isSome=false:=by simpa using T
 have ae:zj (bts a)=none:=by simpa using aa
 simp only [aa] at F
 have Q:∀ w,Calls prog 27 #[.string a,.string b,.func (.func 31) #[] #[]] w (zom w (op2 (· / ·) (bts a) (bts b))):=by
  intro w
  by_cases ah:∀ y,zj (bts b)=some y->y≠0
  . exact zdi a b w ha hb ah
  exact zhz a b w ha hb ae
 clear O Z T aa ae
 go_in
 go_wp2_with fail;refine (E _).mono ?_;rintro e w1 ⟨v,b',rfl,⟨M,D,k1,c1,s1,C,K,G,I,J,rfl⟩,B,z,u⟩;have r:=zf w1 (.cells #[.int .i64 M,.slice D k1 c1,.bool s1,.int .i64 C,.slice K G I,.bool J] 62);have L:=ze (ext u r);clear B z u r E
 cases b' with
 | false=>
   go_wp2_with fail;refine (Q _).mono ?_;rintro e N ⟨rfl,j⟩;have ac:=ze j;clear j;go_wp2;go_ret2;exact ⟨rfl,ext L.o ac.o⟩
 | true=>
   go_wp2_with fail;refine (F _).mono ?_;rintro e N ⟨rfl,j⟩;have S:=ze (ext L.o j);clear j;go_wp2_with fail;refine (Q _).mono ?_;rintro e w4 ⟨rfl,V⟩;have ad:=ze V;clear V;go_wp2;go_ret2;exact ⟨rfl,ext S.o ad.o⟩
def txt (q:Rat):ByteArray:=⟨(zu q).toArray⟩
theorem ZA (q:Rat):bts (txt q)=zu q:=xf _
theorem Yi {q:Rat} (h:yC 50000 q):(txt q).size<=1073741824:=by
 rw [<- zq,ZA]
 have b:=h.1
 have e:=h.2
 unfold zu
 rw [List.length_append,List.length_append]
 have l:(if q.num<0 then [45] else []:List UInt8).length<=1:=by split<;>simp
 have j:(if q.den=1 then [] else 47 :: dec q.den:List UInt8).length<=50001:=by
  split
  . simp
  rw [List.length_cons];omega
 omega
theorem Vt {q:Rat} (h:yC 50000 q):ZQ q=(zu q,0):=by unfold ZQ;rw [if_pos h]
theorem zso {f:Rat->Rat->Rat} {x y:Rat} (hx:yC 50000 x) (hy:yC 50000 y) (hr:yC 50000 (f x y)):op2 f (bts (txt x)) (bts (txt y))=(zu (f x y),0):=by
 rw [ZA,ZA,zd0 (yO hx) (yO hy),Vt hr]
theorem Dz.s {e:Nat} {q:Rat} (h:Dz e q) (he:e<50000):yC 50000 q:=h.short he
def zmk (w:World) (s:ByteArray) (e:Ending) (w' :World):Prop:=e= .returned (.tuple #[.string s,.int .i64 0])/\Below w.heap.size w w'
def zt3 (w:World) (x:Int) (e:Ending) (w' :World):Prop:=e= .returned (.tuple #[.int .i64 x,.int .i64 0])/\Below w.heap.size w w'
theorem zsk {e f:Nat} (x y r:Rat) (hx:Dz e x) (hy:Dz f y) (hr:x - y=r) (h:e+f+1<50000) (w:World):
 Calls prog 11 #[.string (txt x),.string (txt y)] w (zmk w (txt r)):=by
 have b:=zs6 (txt x) (txt y) w (Yi (hx.s (by omega))) (Yi (hy.s (by omega)))
 have j:=zso (f:=(· - ·)) (hx.s (by omega)) (hy.s (by omega)) ((Dz.sub hx hy (uA)).s h)
 rw [j] at b
 rw [<- hr]
 exact b
theorem zrg {e f g:Nat} (x y r:Rat) (hx:Dz e x) (hy:Dz f y) (h0:y≠0) (hr:x / y=r) (hg:Dz g r) (he:e<50000) (hf:f<50000) (h:g<50000) (w:World):
 Calls prog 12 #[.string (txt x),.string (txt y)] w (zmk w (txt r)):=by
 have b:=zs8 (txt x) (txt y) w (Yi (hx.s he)) (Yi (hy.s hf))
 have j:zre (bts (txt x)) (bts (txt y))=(zu r,0):=by
  unfold zre
  rw [ZA,ZA,yO (hx.s he),yO (hy.s hf)]
  show (if y=0 then ([],7) else ZQ (x / y))=_
  rw [if_neg h0,hr,Vt (hg.s h)]
 rw [j] at b
 exact b
theorem zl5 {e f:Nat} (x y:Rat) (hx:Dz e x) (hy:Dz f y) (he:e<50000) (hf:f<50000) (w:World):
 Calls prog 13 #[.string (txt x),.string (txt y)] w (zt3 w (Y7 x y)):=by
 have b:=znn (txt x) (txt y) w (Yi (hx.s he)) (Yi (hy.s hf))
 have j:zsu (bts (txt x)) (bts (txt y))=(Y7 x y,0):=by
  unfold zsu
  rw [ZA,ZA,yO (hx.s he),yO (hy.s hf)]
 rw [j] at b
 exact b
theorem Xr:(⟨#[48]⟩:ByteArray)=txt 0:=by decide
end Go.Proofs.YtofmkndhocinmaaGreatDoor
