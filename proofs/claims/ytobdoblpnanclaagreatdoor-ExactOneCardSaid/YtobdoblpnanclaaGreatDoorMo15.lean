/- Parts of the proof. -/
import Derived.Test.YtobdoblpnanclaaGreatDoorMo13
import Derived.Test.YtobdoblpnanclaaGreatDoorMo14
set_option linter.all false
set_option maxRecDepth 100000
set_option maxHeartbeats 32000000
namespace Go.Proofs.YtobdoblpnanclaaGreatDoor
open Proofs.Tryz Go.RowKit Go.Deep
attribute [local go_sem ↓] Go.wp_at_zero Go.wp_at_succ
theorem zcx {z:Int} (h:len 4294967296 z.natAbs<=67108864):(yZ z).length<=671088642:=by
 have:=ZI h
 unfold yZ
 split
 . rw [List.length_cons];omega
 omega
theorem zhp {q:Rat} (h:q.den=1):ya q=yZ q.num:=by
 unfold ya yZ
 rw [if_pos h]
 by_cases b:q.num<0
 . rw [if_pos b,if_pos b];simp
 rw [if_neg b,if_neg b];simp
theorem zgs {q:Rat} (h:q.den≠1):ya q=yZ q.num ++ 47 :: yZ (q.den:Int):=by
 have hd:yZ (q.den:Int)=dec q.den:=by unfold yZ;rw [if_neg (by omega),Int.natAbs_natCast]
 rw [hd]
 unfold ya yZ
 rw [if_neg h]
 by_cases b:q.num<0
 . rw [if_pos b,if_pos b];simp
 rw [if_neg b,if_neg b];simp
theorem zf5 (a b:List UInt8):(⟨a.toArray⟩:ByteArray) ++ (⟨b.toArray⟩:ByteArray)=⟨(a ++ b).toArray⟩:=by
 apply ByteArray.ext
 rw [ByteArray.data_append]
 simp
theorem zN.one {w:World} {y d:Int} {B:Option Addr} {k c:Nat} {t:Bool} (h:zN w (.agg #[.int .i64 y,.slice B k c,.bool t]) d):d=1↔(B=none/\y=1):=by
 rcases h with ⟨x,ng,e,l,j,rfl⟩ | ⟨m,k',c',n,ng,e,l,j,rfl⟩
 . injection e with e
   have b:=congrArg (fun a=>a.toList) e;simp at b;obtain ⟨rfl,⟨rfl,rfl,rfl⟩,rfl⟩:=b
   simp
 . injection e with e
   have b:=congrArg (fun a=>a.toList) e;simp at b;obtain ⟨rfl,⟨rfl,rfl,rfl⟩,rfl⟩:=b
   constructor
   rotate_left
   . intro h;cases h.1
   intro h
   split at h<;>omega
theorem zbz (va:Value) (q:Rat) (w:World) (ha:zV w va q) (hl:xJ 67108864 q):
 Calls prog 15 #[va] w (zn4 w (ya q)):=by
 obtain ⟨B,r,m,u,z,b,D,j,l,y,rfl,E,G⟩:=ha
 have F:=zN.one G
 have C:=ze (zf w (.cells #[.int .i64 B,.slice r m u,.bool z,.int .i64 b,.slice D j l,.bool y] 60))
 have L:=ze (E.below C.o)
 have U:=ze E
 have T:=ze G
 have I:=ze hl.1
 have K:=ze hl.2
 have q0:=fun w=>zml w D j l 0 0
 by_cases hd:q.den=1
 . obtain ⟨rfl,rfl⟩:=F.1 (by omega)
   rw [zhp hd];clear F E G hd hl
   go_in
   go_wp2_with fail;refine (Vs _ q.num _ L.o I.o).mono ?_;rintro e S ⟨rfl,Q⟩;go_wp2;go_ret;exact ⟨rfl,ext C.o Q⟩
 have Z:=zcx I.o
 have X:=zcx K.o;have V:=ze (zgs hd);have R:¬ (D=none/\b=1):=fun h=>hd (by have:=F.2 h;omega)
 have ab:¬ 9223372036854775807<(yZ q.num).length+1:=by omega
 have ac:¬ 9223372036854775807<(yZ q.num).length+1+(yZ (q.den:Int)).length:=by omega
 clear F E G hd hl Z X
 have O:D=none->((b:Int) == 1)=false:=by
  intro e;rw [beq_eq_false_iff_ne];exact fun h=>R ⟨e,h⟩
 clear R
 rcases D with _ | M
 . have aa:=O rfl
   clear O;have N:Hid (Below w.heap.size w ((w.alloc (.cells #[.int .i64 B,.slice r m u,.bool z,.int .i64 b,.slice none j l,.bool y] 60)).drew)):=ze (zo C.o 1);clear C L
   go_in
   go_wp2_with fail
   go_region_held3 (fun w' =>w'.cell? ⟨w.heap.size,0,none⟩=some (.int .i64 B)/\w'.cell? ⟨w.heap.size,1,none⟩=some (.slice r m u)/\w'.cell? ⟨w.heap.size,2,none⟩=some (.bool z)/\w'.cell? ⟨w.heap.size,3,none⟩=some (.int .i64 b)/\w'.cell? ⟨w.heap.size,4,none⟩=some (.slice none j l)/\w'.cell? ⟨w.heap.size,5,none⟩=some (.bool y)/\w.heap.size<w'.heap.size/\Hid (Below w.heap.size w w'))
    (first
      | with_reducible exact ⟨by go_keep,by go_keep,by go_keep,by go_keep,by go_keep,by go_keep,by first | (simp;done) | (simp;omega),N⟩
      | (go_split_ands;with_reducible exact ⟨zi ‹_› ‹_› ‹_›,zi ‹_› ‹_› ‹_›,zi ‹_› ‹_› ‹_›,zi ‹_› ‹_› ‹_›,zi ‹_› ‹_› ‹_›,zi ‹_› ‹_› ‹_›,zY ‹_› ‹_›,zp ‹_› ‹_›⟩)
      | go_keep)
    (first
      | (go_at_call_of 41 (Value.agg #[.int .i64 B,.slice r m u,.bool z]);refine (Vs _ q.num _ (U.o.below (zW (by go_split_ands;assumption))) I.o).mono ?_;rintro e S ⟨rfl,Q⟩)
      | (go_at_call_of 41 (Value.agg #[.int .i64 b,.slice none j l,.bool y]);refine (Vs _ (q.den:Int) _ (T.o.below (zW (by go_split_ands;assumption))) K.o).mono ?_;rintro e w2 ⟨rfl,Y⟩))
   all_goals
    go_split_ands;have J:=zW (by assumption:Hid (Below w.heap.size w w2));go_wp2;go_ret;refine ⟨?_,J⟩;rw [V.o,show yZ q.num ++ 47 :: yZ (q.den:Int)=(yZ q.num ++ [47]) ++ yZ (q.den:Int) by simp, <- zf5, <- zf5]
    rfl
 . clear O
   have N:Hid (Below w.heap.size w ((w.alloc (.cells #[.int .i64 B,.slice r m u,.bool z,.int .i64 b,.slice (some M) j l,.bool y] 60)).drew)):=ze (zo C.o 1);clear C L
   go_in
   go_wp2_with fail
   go_region_held3 (fun w' =>w'.cell? ⟨w.heap.size,0,none⟩=some (.int .i64 B)/\w'.cell? ⟨w.heap.size,1,none⟩=some (.slice r m u)/\w'.cell? ⟨w.heap.size,2,none⟩=some (.bool z)/\w'.cell? ⟨w.heap.size,3,none⟩=some (.int .i64 b)/\w'.cell? ⟨w.heap.size,4,none⟩=some (.slice (some M) j l)/\w'.cell? ⟨w.heap.size,5,none⟩=some (.bool y)/\w.heap.size<w'.heap.size/\Hid (Below w.heap.size w w'))
    (first
      | with_reducible exact ⟨by go_keep,by go_keep,by go_keep,by go_keep,by go_keep,by go_keep,by first | (simp;done) | (simp;omega),N⟩
      | (go_split_ands;with_reducible exact ⟨zi ‹_› ‹_› ‹_›,zi ‹_› ‹_› ‹_›,zi ‹_› ‹_› ‹_›,zi ‹_› ‹_› ‹_›,zi ‹_› ‹_› ‹_›,zi ‹_› ‹_› ‹_›,zY ‹_› ‹_›,zp ‹_› ‹_›⟩)
      | go_keep)
    (first
      | (go_at_call_of 41 (Value.agg #[.int .i64 B,.slice r m u,.bool z]);refine (Vs _ q.num _ (U.o.below (zW (by go_split_ands;assumption))) I.o).mono ?_;rintro e S ⟨rfl,Q⟩)
      | (go_at_call_of 41 (Value.agg #[.int .i64 b,.slice (some M) j l,.bool y]);refine (Vs _ (q.den:Int) _ (T.o.below (zW (by go_split_ands;assumption))) K.o).mono ?_;rintro e w2 ⟨rfl,Y⟩))
   all_goals
    go_split_ands;have J:=zW (by assumption:Hid (Below w.heap.size w w2));go_wp2;go_ret;refine ⟨?_,J⟩;rw [V.o,show yZ q.num ++ 47 :: yZ (q.den:Int)=(yZ q.num ++ [47]) ++ yZ (q.den:Int) by simp, <- zf5, <- zf5]
    rfl
theorem zbr (M:Nat) (q:Rat):(!decide (yz M q))=(decide (M<(dec q.num.natAbs).length) || decide (M<(dec q.den).length)):=by
 by_cases b:(dec q.num.natAbs).length<=M
 rotate_left
 . rw [uF (fun h:yz M q=>b h.1),uE (show M<(dec q.num.natAbs).length by omega)];rfl
 by_cases e:(dec q.den).length<=M
 . rw [uE (show yz M q from ⟨b,e⟩),uF (by omega),uF (by omega)];rfl
 rw [uF (fun h:yz M q=>e h.2),uE (show M<(dec q.den).length by omega),Bool.or_true];rfl
theorem yt.slice {w:World} {v:Value} {n:Nat} (h:yt w v n):∃ A c,v= .slice A (len 4294967296 n) c:=by
 obtain ⟨A',c',u,e,m,l,r,b,j⟩:=h
 refine ⟨A',c',?_⟩
 rw [e, <- j,b.length_eq (by omega)]
theorem XE {n M:Nat} (h:len 4294967296 n*10<=M) (hM:1<=M):(dec n).length<=M:=by
 by_cases e:n=0
 . subst e;rw [v8];simpa using hM
 rw [zez n e]
 have l:len 10 n<=10*len 4294967296 n:=by
  apply xo (by omega)
  have j:=vP (β:=4294967296) (by omega) n;have b:4294967296 ^ len 4294967296 n<=(10 ^ 10) ^ len 4294967296 n:=Nat.pow_le_pow_left (by omega) _;rw [<- Nat.pow_mul] at b;exact uK j b
 omega
theorem zfe (va:Value) (q:Rat) (M:Nat) (w:World) (ha:zV w va q) (hl:xJ 67108864 q) (h1M:1<=M) (hM2:M<=1000000):
 Calls prog 68 #[va,.int .i64 M] w (zj3 w (.bool (!decide (yz M q)))):=by
 obtain ⟨x1,A1,V,c1,s1,Y,B1,aa,ab,t1,rfl,U,ad⟩:=ha
 have F:=zf w (.cells #[.int .i64 x1,.slice A1 V c1,.bool s1,.int .i64 Y,.slice B1 aa ab,.bool t1] 60)
 have HA:=ze (U.below F)
 have HD:=ze (ad.below F)
 have HW:=ze F
 have D:=ze hl.1
 have r:=ze hl.2
 have kB:=Blk.new w 60 #[.int .i64 x1,.slice A1 V c1,.bool s1,.int .i64 Y,.slice B1 aa ab,.bool t1]
 have HK:=ze kB
 clear U ad hl F kB
 go_in
 go_wp2_with fail
 refine (vV _ q.num _ HA.o).mono ?_
 rintro e w1 ⟨p,rfl,hp,T⟩
 have Z:=HK.o.below T HK.o.lt
 obtain ⟨_,_,_,b3,b4,b5,_⟩:=bp6 Z
 have HP:=ze hp
 have ac:=ze T
 clear hp T Z
 go_wp2_with fail
 refine (vV _ (q.den:Int) _ (HD.o.below ac.o)).mono ?_
 rintro e w2 ⟨p',rfl,K,R⟩
 obtain ⟨A2,c2,rfl⟩:=HP.o.slice
 obtain ⟨A3,c3,rfl⟩:=K.slice
 have S:=ze (HP.o.below R)
 have Q :=ze K
 have G:=ze (ext (ext HW.o ac.o) R)
 clear b3 b4 b5 K R
 have ai:len 4294967296 q.num.natAbs<=67108864:=D.o
 have ah:len 4294967296 (q.den:Int).natAbs<=67108864:=r.o
 obtain ⟨a,C⟩:=uQ (len 4294967296 q.num.natAbs)
 obtain ⟨b,E⟩:=uQ (len 4294967296 (q.den:Int).natAbs)
 rw [<- C] at ai
 rw [<- E] at ah
 rw [<- C] at S
 rw [<- E] at Q
 have X :=ze C
 have ae :=ze E
 rw [<- C, <- E]
 clear C E
 rcases (show a<=b\/b<a by omega) with aj | aj
 . by_cases hm:b*10<=M
   . have O:=ze (show yz M q from ⟨XE (by rw [<- X.o];omega) h1M,by have:=XE (n:=(q.den:Int).natAbs) (by rw [<- ae.o];omega) h1M;rwa [Int.natAbs_natCast] at this⟩)
     have l:=ze (show (!decide (yz M q))=false by rw [uE O.o];rfl);go_wp2;go_ret;exact ⟨yy l.o,G.o⟩
   have ag :¬ (b:Int)*10<=(M:Int):=by omega
   have ak:=ZI D.o;go_wp2_with fail;refine (Yi _ _ _ S.o D.o).mono ?_;rintro e w3 ⟨rfl,z⟩;have B:=ze (Q.o.below z);have u:=ze (ext G.o z);clear z
   by_cases m:(dec q.num.natAbs).length<=M
   rotate_left
   . have l:=ze (show (!decide (yz M q))=true by rw [uF (fun h=>m h.1)];rfl)
     have N:(M:Int)<((dec q.num.natAbs).length:Int):=by omega
     clear m;go_wp2;go_ret;exact ⟨yy l.o,u.o⟩
   have af:=ZI r.o
   have N:¬ (M:Int)<((dec q.num.natAbs).length:Int):=by omega
   have J:=ze m;clear m
   by_cases j:(dec (q.den:Int).natAbs).length<=M
   . have l:=ze (show (!decide (yz M q))=false by rw [uE ⟨J.o,by rw [Int.natAbs_natCast] at j;exact j⟩];rfl)
     have L:¬ (M:Int)<((dec (q.den:Int).natAbs).length:Int):=by omega
     clear j;go_wp2_with fail;refine (Yi _ _ _ B.o r.o).mono ?_;rintro e I ⟨rfl,y⟩;go_wp2;go_ret;exact ⟨yy (zbr M q),ext u.o y⟩
   have l:=ze (show (!decide (yz M q))=true by rw [uF (fun h=>j (by rw [Int.natAbs_natCast];exact h.2))];rfl)
   have L:(M:Int)<((dec (q.den:Int).natAbs).length:Int):=by omega
   clear j;go_wp2_with fail;refine (Yi _ _ _ B.o r.o).mono ?_;rintro e I ⟨rfl,y⟩;go_wp2;go_ret;exact ⟨yy (zbr M q),ext u.o y⟩
 . by_cases hm:a*10<=M
   . have O:=ze (show yz M q from ⟨XE (by rw [<- X.o];omega) h1M,by have:=XE (n:=(q.den:Int).natAbs) (by rw [<- ae.o];omega) h1M;rwa [Int.natAbs_natCast] at this⟩)
     have l:=ze (show (!decide (yz M q))=false by rw [uE O.o];rfl);go_wp2;go_ret;exact ⟨yy l.o,G.o⟩
   have ag :¬ (a:Int)*10<=(M:Int):=by omega
   have ak:=ZI D.o;go_wp2_with fail;refine (Yi _ _ _ S.o D.o).mono ?_;rintro e w3 ⟨rfl,z⟩;have B:=ze (Q.o.below z);have u:=ze (ext G.o z);clear z
   by_cases m:(dec q.num.natAbs).length<=M
   rotate_left
   . have l:=ze (show (!decide (yz M q))=true by rw [uF (fun h=>m h.1)];rfl)
     have N:(M:Int)<((dec q.num.natAbs).length:Int):=by omega
     clear m;go_wp2;go_ret;exact ⟨yy l.o,u.o⟩
   have af:=ZI r.o
   have N:¬ (M:Int)<((dec q.num.natAbs).length:Int):=by omega
   have J:=ze m;clear m
   by_cases j:(dec (q.den:Int).natAbs).length<=M
   . have l:=ze (show (!decide (yz M q))=false by rw [uE ⟨J.o,by rw [Int.natAbs_natCast] at j;exact j⟩];rfl)
     have L:¬ (M:Int)<((dec (q.den:Int).natAbs).length:Int):=by omega
     clear j;go_wp2_with fail;refine (Yi _ _ _ B.o r.o).mono ?_;rintro e I ⟨rfl,y⟩;go_wp2;go_ret;exact ⟨yy (zbr M q),ext u.o y⟩
   have l:=ze (show (!decide (yz M q))=true by rw [uF (fun h=>j (by rw [Int.natAbs_natCast];exact h.2))];rfl)
   have L:(M:Int)<((dec (q.den:Int).natAbs).length:Int):=by omega
   clear j;go_wp2_with fail;refine (Yi _ _ _ B.o r.o).mono ?_;rintro e I ⟨rfl,y⟩;go_wp2;go_ret;exact ⟨yy (zbr M q),ext u.o y⟩
def Vl (q:Rat):List UInt8×Int:=if yz 50000 q then (ya q,0) else ([],3)
def zw0 (w:World) (r:List UInt8×Int) (e:Ending) (w' :World):Prop:=e= .returned (.tuple #[str r.1,.int .i64 r.2])/\Below w.heap.size w w'
theorem zra (va:Value) (q:Rat) (w:World) (ha:zV w va q) (hl:xJ 67108864 q):
 Calls prog 62 #[va] w (zw0 w (Vl q)):=by
 obtain ⟨U,I,C,J,N,F,O,K,L,M,rfl,D,R⟩:=ha
 have r:=zf w (.cells #[.int .i64 U,.slice I C J,.bool N,.int .i64 F,.slice O K L,.bool M] 60)
 have z:=ze (show zV _ _ q from ⟨_,_,_,_,_,_,_,_,_,_,rfl,D.below r,R.below r⟩)
 have S:=ze r
 have B:=ze hl
 have V:=Blk.new w 60 #[.int .i64 U,.slice I C J,.bool N,.int .i64 F,.slice O K L,.bool M]
 have Q:=ze V
 clear D R hl r V
 have u:=fun v w h hl=>zfe v q 50000 w h hl (by omega) (by omega)
 by_cases b:yz 50000 q
 . have m:(!decide (yz 50000 q))=false:=by rw [uE b];rfl
   have l:Vl q=(ya q,0):=by unfold Vl;rw [if_pos b]
   rw [m] at u;rw [l];clear m l b
   go_in
   go_wp2_with fail;refine (u _ _ z.o B.o).mono ?_;rintro e E ⟨rfl,j⟩;have G:=Q.o.below j Q.o.lt;obtain ⟨b0,Y,b2,b3,b4,Z,_⟩:=bp6 G;have y:=ze j;clear j G;go_wp2_with fail;refine (zbz _ q E (z.o.below y.o) B.o).mono ?_;rintro e w2 ⟨rfl,T⟩;have X:=ze T;clear T;go_wp2;go_ret2;exact ⟨rfl,ext (ext S.o y.o) X.o⟩
 have m:(!decide (yz 50000 q))=true:=by rw [uF b];rfl
 have l:Vl q=([],3):=by unfold Vl;rw [if_neg b]
 rw [m] at u;rw [l];clear m l b
 go_in
 go_wp2_with fail;refine (u _ _ z.o B.o).mono ?_;rintro e E ⟨rfl,j⟩;have y:=ze j;clear j;go_wp2;go_ret2;exact ⟨rfl,ext S.o y.o⟩
theorem zam {w w' :World} {v:Value} {z:Int} (hb:Below w.heap.size w w') (h:Hid (zN w v z)):Hid (zN w' v z):=h.out.below hb
theorem Zn {w:World} {g:Nat} {v:Value} {z x y:Int} {A B:Option Addr} {k c k' c' :Nat} {s t:Bool} (b:Hid (Xu w g)) (h:Hid (zN w v z)):Hid (zN (World.rat w g x A k c s y B k' c' t) v z):=by
 obtain ⟨x,A,k,c,s,y,B,k',c',t,b⟩:=b.out
 exact yl h.out b
def zvh (v:Value):Prop:=∃ (x:Int) (A:Option Addr) (k c:Nat) (s:Bool) (y:Int) (B:Option Addr) (k' c' :Nat) (t:Bool),v= .agg #[.int .i64 x,.slice A k c,.bool s,.int .i64 y,.slice B k' c',.bool t]
def xM (w:World) (l:List UInt8) (e:Ending) (w' :World):Prop:=
 ∃ v b,e= .returned (.tuple #[v,.bool b])/\zvh v/\b=(zj l).isSome/\(∀ q,zj l=some q->zV w' v q)/\Below w.heap.size w w'
theorem xM.no {w w' :World} {l:List UInt8} {v:Value} (h:zj l=none) (hv:zvh v) (hb:Below w.heap.size w w'):xM w l (.returned (.tuple #[v,.bool false])) w' :=
 ⟨v,false,rfl,hv,by rw [h];rfl,fun q hq=>(by rw [h] at hq;cases hq),hb⟩
theorem xM.yes {w w' :World} {l:List UInt8} {v:Value} {q:Rat} (h:zj l=some q) (hv:zV w' v q) (hb:Below w.heap.size w w'):xM w l (.returned (.tuple #[v,.bool true])) w' :=by
 refine ⟨v,true,rfl,?_,(by rw [h];rfl),fun q' hq=>?_,hb⟩
 rotate_left
 . rw [h] at hq;injection hq with hq;rw [<- hq];exact hv
 obtain ⟨x,A,k,c,s,y,B,k',c',t,rfl,_,_⟩:=hv
 exact ⟨x,A,k,c,s,y,B,k',c',t,rfl⟩
theorem xM.maybe {w w' :World} {l:List UInt8} {v:Value} {q:Rat} {d:Nat} (h:zj l=if q.den=d then some q else none) (hv:zV w' v q) (hb:Below w.heap.size w w'):
 xM w l (.returned (.tuple #[v,.bool (zZ (q.den:Int) (signed false d) == 0)])) w' :=by
 have e:(zZ (q.den:Int) (signed false d) == 0)=decide (q.den=d):=by
  unfold zZ signed
  simp only [Bool.false_eq_true,if_false]
  rcases Nat.lt_trichotomy q.den d with b | b | b
  . rw [if_pos (by omega),uF (by omega)];rfl
  . rw [if_neg (by omega),if_neg (by omega),uE b];rfl
  . rw [if_neg (by omega),if_pos (by omega),uF (by omega)];rfl
 rw [e]
 by_cases hd:q.den=d
 . rw [uE hd]
   rw [if_pos hd] at h;exact xM.yes h hv hb
 rw [uF hd]
 rw [if_neg hd] at h;obtain ⟨x,A,k,c,s,y,B,k',c',t,rfl,_,_⟩:=hv;exact xM.no h ⟨x,A,k,c,s,y,B,k',c',t,rfl⟩ hb
theorem VX (a:ByteArray) (c:UInt8):(a.toList == [c])=decide (bts a=[c]):=by
 rw [Lib.toList_data]
 unfold bts
 rw [Bool.eq_iff_iff,beq_iff_eq,decide_eq_true_iff]
theorem zir (w:World):zN w (.agg #[.int .i64 1,.slice none 0 0,.bool false]) 1:=.inl ⟨1,false,rfl,by omega,by omega,rfl⟩
theorem Yf (s:Bool) (n d:Nat):Rat.divInt (signed s n) (signed false d)=Yb s n d:=by
 unfold Yb signed
 cases s<;>simp
theorem xW {s:Bool} {n M:Nat} (h:len 4294967296 n<=M):len 4294967296 (signed s n).natAbs<=M:=by
 unfold signed
 cases s<;>simpa using h
theorem Zu (s:ByteArray) (w:World) (hs:s.size<=1073741824):
 Calls prog 18 #[.string s] w (xM w (bts s)):=by
 have bl:=fun w=>zfq s w hs
 have J:=Blk.new w 60 #[.int .i64 0,.slice none 0 0,.bool false,.int .i64 0,.slice none 0 0,.bool false]
 have bo:=zf w (.cells #[.int .i64 0,.slice none 0 0,.bool false,.int .i64 0,.slice none 0 0,.bool false] 60)
 go_in
 go_wp2_with fail
 refine (bl _).mono ?_
 rintro e w1 ⟨u,rfl,hu,rfl⟩
 have bq:u.size<=1073741824:=by
  rw [<- zt,hu]
  unfold zq
  have:=zt s
  split
  . rw [List.length_tail];omega
  omega
 have bp:=fun w=>zuv u 47 w bq
 obtain ⟨neg,a5⟩:=uQ (xj (bts s))
 rw [<- a5]
 have HU:=ze hu
 have HN:=ze a5
 clear bl hu a5
 go_wp2_with fail
 refine (bp _).mono ?_
 rintro e w1 ⟨a,b,rfl,ha,hb,n1,rfl⟩
 rw [HU.o] at ha hb |-
 obtain ⟨bh,a4⟩:=uQ (has 47 (zq (bts s)))
 rw [<- a4] at hb |-
 have bn:a.size<=1073741824:=by
  have h1:(ahead 47 (zq (bts s))).length<=(zq (bts s)).length:=(List.takeWhile_sublist _).length_le
  rw [<- ha, <- HU.o,zt,zt] at h1
  omega
 have bm:b.size<=1073741824:=by
  rw [<- zt,hb]
  split
  rotate_left
  . simp
  have h1:(yo 47 (zq (bts s))).length<=(zq (bts s)).length:=by
   unfold yo;rw [List.length_tail];have:=(List.dropWhile_sublist (fun x=>x != (47:UInt8)) (l:=zq (bts s))).length_le
   omega
  rw [<- HU.o,zt] at h1;rw [HU.o] at h1
  omega
 have aP:=fun w=>zhs a w bn
 have M:=fun w=>zhs b w bm
 have za:=VX a 48
 have N:=VX b 48
 have zc:=VX b 49
 rw [ha] at aP za
 obtain ⟨HA,HB,HI,HS⟩:=hz4 ha hb a4 hs
 have al:=J.drewN n1
 have ba:=zo bo n1
 clear bp ha hb a4 bq bn bm hs J bo
 generalize (w.alloc (.cells #[.int .i64 0,.slice none 0 0,.bool false,.int .i64 0,.slice none 0 0,.bool false] 60)).drewN n1=w1 at al ba |-
 have lR:=al.lt;have r0:=al.cell 0;have r1:=al.cell 1;have r2:=al.cell 2;have r3:=al.cell 3;have r4:=al.cell 4;have r5:=al.cell 5;obtain ⟨f0,f1,f2,f3,f4,f5⟩:=fp6 al;simp at r0 r1 r2 r3 r4 r5
 have V:=ze al
 have ac:=ze ba
 clear al ba
 cases hpl:zX (ahead 47 (zq (bts s))) with
 | false=>
   have F:=ze (zq2 hpl);rw [hpl] at aP;clear hpl za N zc M;go_wp2_with fail;refine (aP _).mono ?_;rintro e w2 ⟨rfl,rfl⟩;go_wp2_with fail;have j:=yj (x:=0) (A:=none) (k:=0) (c:=0) (s:=false) (y:=0) (B:=none) (k' :=0) (c' :=0) (t:=false) V.o;have m:=j.cell 0;have r:=j.cell 1;have C:=j.cell 2;have E:=j.cell 3;have D:=j.cell 4;have z:=j.cell 5;simp only [World.rat] at m r C E D z;simp at m r C E D z;refine bodyPost_ret (v:=.tuple #[.agg #[.int .i64 0,.slice none 0 0,.bool false,.int .i64 0,.slice none 0 0,.bool false],.bool false]) (by simp [results,results18,go_sem,m,r,C,E,D,z]) rfl ?_;exact xM.no F.o ⟨_,_,_,_,_,_,_,_,_,_,rfl⟩ (ye (x:=0) (A:=none) (k:=0) (c:=0) (s:=false) (y:=0) (B:=none) (k' :=0) (c' :=0) (t:=false) ac.o (uA))
 | true=>
   have ak:=ze hpl;rw [hpl] at aP;clear hpl;go_wp2_with fail;refine (aP _).mono ?_;rintro e w2 ⟨rfl,rfl⟩;clear aP
   cases neg with
   | false=>
     cases za1:(a.toList == [48]) with
     | true=>
       cases bh with
       | false=>
         have F:=ze (VM ak.o (fun h=>by rw [<- HN.o] at h;cases h) HI.o.symm);have HC:=ze (ZX ak.o);rw [<- HN.o] at F;have ay:=ze (show a.size<=50000 by rw [<- zt,HA.o];exact HC.o.2);clear za N zc M;go_wp2_with fail;refine (Ya a _ (by rw [HA.o];exact HC.o.1) ay.o).mono ?_;rintro e w2 ⟨v,rfl,hv,ad⟩;rw [HA.o] at hv;have HV:=ze hv;have K:=ze (V.o.below ad lR);have ar:=ze (ext ac.o ad);clear hv ad r0 r1 r2 r3 r4 r5 f0 f1 f2 f3 f4 f5;go_wp2_with fail;refine (yb false v _ w2 HV.o).mono ?_;rintro e w3 ⟨v3,rfl,ae,L⟩;obtain ⟨x',A',k',c',aa,rfl,_,_,_⟩:=ae.form;have I:=zf w3 (.cells #[.int .i64 x',.slice A' k' c',.bool aa] 58);have ah:=ze (ae.below I);have G:=(K.o.below L K.o.lt).below I (K.o.below L K.o.lt).lt;have aj:=ze (ext (ext ar.o L) I);have af:=ze G;have r0:=G.cell 0;have r1:=G.cell 1;have r2:=G.cell 2;have r3:=G.cell 3;have r4:=G.cell 4;have r5:=G.cell 5;obtain ⟨f0,f1,f2,f3,f4⟩:=fp5 G
         have f5:=G.frozen 5;simp at r0 r1 r2 r3 r4 r5;have kX:=Blk.new w3 58 #[.int .i64 x',.slice A' k' c',.bool aa];obtain ⟨g0,g1,g2,_⟩:=bp3 kX;clear L ae I G kX lR;go_wp2_with fail;have ab:=yj (x:=x') (A:=A') (k:=k') (c:=c') (s:=aa) (y:=1) (B:=none) (k' :=0) (c' :=0) (t:=false) af.o;have m:=ab.cell 0;have r:=ab.cell 1;have C:=ab.cell 2;have E:=ab.cell 3;have D:=ab.cell 4;have z:=ab.cell 5;simp only [World.rat] at m r C E D z;simp at m r C E D z;refine bodyPost_ret (v:=.tuple #[.agg #[.int .i64 x',.slice A' k' c',.bool aa,.int .i64 1,.slice none 0 0,.bool false],.bool true]) (by simp [results,results18,go_sem,m,r,C,E,D,z]) rfl ?_;refine xM.yes F.o ⟨_,_,_,_,_,_,_,_,_,_,rfl,?_,?_⟩ (ye aj.o (uA))
         . rw [(Y9 _ _).1]
           exact yl ah.o af.o
         rw [(Y9 _ _).2]
         exact zir _
       | true=>
         cases hpb2:zX (bts b) with
         | false=>
           have F:=ze (Zs HI.o.symm (.inl (by have:=HB.o;rw [if_pos rfl] at this;rw [<- this];exact hpb2)));rw [hpb2] at M;clear hpb2 za N zc;go_wp2_with fail;refine (M _).mono ?_;rintro e w2 ⟨rfl,rfl⟩;go_wp2_with fail;have j:=yj (x:=0) (A:=none) (k:=0) (c:=0) (s:=false) (y:=0) (B:=none) (k' :=0) (c' :=0) (t:=false) V.o;have m:=j.cell 0;have r:=j.cell 1;have C:=j.cell 2;have E:=j.cell 3;have D:=j.cell 4;have z:=j.cell 5;simp only [World.rat] at m r C E D z;simp at m r C E D z;refine bodyPost_ret (v:=.tuple #[.agg #[.int .i64 0,.slice none 0 0,.bool false,.int .i64 0,.slice none 0 0,.bool false],.bool false]) (by simp [results,results18,go_sem,m,r,C,E,D,z]) rfl ?_;exact xM.no F.o ⟨_,_,_,_,_,_,_,_,_,_,rfl⟩ (ye (x:=0) (A:=none) (k:=0) (c:=0) (s:=false) (y:=0) (B:=none) (k' :=0) (c' :=0) (t:=false) ac.o (uA))
         | true=>
           have au:=ze hpb2;rw [hpb2] at M;clear hpb2
           cases zb1:(b.toList == [48]) with
           | true=>
             have F:=ze (Zs HI.o.symm (.inr (.inl (by have:=HB.o;rw [if_pos rfl] at this;rw [<- this];exact uG (N.symm.trans zb1)))));clear za N zc;go_wp2_with fail;refine (M _).mono ?_;rintro e w2 ⟨rfl,rfl⟩;go_wp2_with fail;have j:=yj (x:=0) (A:=none) (k:=0) (c:=0) (s:=false) (y:=0) (B:=none) (k' :=0) (c' :=0) (t:=false) V.o;have m:=j.cell 0;have r:=j.cell 1;have C:=j.cell 2;have E:=j.cell 3;have D:=j.cell 4;have z:=j.cell 5;simp only [World.rat] at m r C E D z;simp at m r C E D z;refine bodyPost_ret (v:=.tuple #[.agg #[.int .i64 0,.slice none 0 0,.bool false,.int .i64 0,.slice none 0 0,.bool false],.bool false]) (by simp [results,results18,go_sem,m,r,C,E,D,z]) rfl ?_;exact xM.no F.o ⟨_,_,_,_,_,_,_,_,_,_,rfl⟩ (ye (x:=0) (A:=none) (k:=0) (c:=0) (s:=false) (y:=0) (B:=none) (k' :=0) (c' :=0) (t:=false) ac.o (uA))
           | false=>
             cases zc1:(b.toList == [49]) with
             | true=>
               have F:=ze (Zs HI.o.symm (.inr (.inr (.inl (by have:=HB.o;rw [if_pos rfl] at this;rw [<- this];exact uG (zc.symm.trans zc1))))));clear za N zc;go_wp2_with fail;refine (M _).mono ?_;rintro e w2 ⟨rfl,rfl⟩;go_wp2_with fail;have j:=yj (x:=0) (A:=none) (k:=0) (c:=0) (s:=false) (y:=0) (B:=none) (k' :=0) (c' :=0) (t:=false) V.o;have m:=j.cell 0;have r:=j.cell 1;have C:=j.cell 2;have E:=j.cell 3;have D:=j.cell 4;have z:=j.cell 5;simp only [World.rat] at m r C E D z;simp at m r C E D z;refine bodyPost_ret (v:=.tuple #[.agg #[.int .i64 0,.slice none 0 0,.bool false,.int .i64 0,.slice none 0 0,.bool false],.bool false]) (by simp [results,results18,go_sem,m,r,C,E,D,z]) rfl ?_;exact xM.no F.o ⟨_,_,_,_,_,_,_,_,_,_,rfl⟩ (ye (x:=0) (A:=none) (k:=0) (c:=0) (s:=false) (y:=0) (B:=none) (k' :=0) (c' :=0) (t:=false) ac.o (uA))
             | false=>
               have F:=ze (Zs HI.o.symm (.inr (.inr (.inr (uG (by rw [<- za];exact za1))))));clear za N zc;go_wp2_with fail;refine (M _).mono ?_;rintro e w2 ⟨rfl,rfl⟩;go_wp2_with fail;have j:=yj (x:=0) (A:=none) (k:=0) (c:=0) (s:=false) (y:=0) (B:=none) (k' :=0) (c' :=0) (t:=false) V.o;have m:=j.cell 0;have r:=j.cell 1;have C:=j.cell 2;have E:=j.cell 3;have D:=j.cell 4;have z:=j.cell 5;simp only [World.rat] at m r C E D z;simp at m r C E D z;refine bodyPost_ret (v:=.tuple #[.agg #[.int .i64 0,.slice none 0 0,.bool false,.int .i64 0,.slice none 0 0,.bool false],.bool false]) (by simp [results,results18,go_sem,m,r,C,E,D,z]) rfl ?_;exact xM.no F.o ⟨_,_,_,_,_,_,_,_,_,_,rfl⟩ (ye (x:=0) (A:=none) (k:=0) (c:=0) (s:=false) (y:=0) (B:=none) (k' :=0) (c' :=0) (t:=false) ac.o (uA))
     | false=>
       cases bh with
       | false=>
         have F:=ze (VM ak.o (fun h=>by rw [<- HN.o] at h;cases h) HI.o.symm);have HC:=ze (ZX ak.o);rw [<- HN.o] at F;have ay:=ze (show a.size<=50000 by rw [<- zt,HA.o];exact HC.o.2);clear za N zc M;go_wp2_with fail;refine (Ya a _ (by rw [HA.o];exact HC.o.1) ay.o).mono ?_;rintro e w2 ⟨v,rfl,hv,ad⟩;rw [HA.o] at hv;have HV:=ze hv;have K:=ze (V.o.below ad lR);have ar:=ze (ext ac.o ad);clear hv ad r0 r1 r2 r3 r4 r5 f0 f1 f2 f3 f4 f5;go_wp2_with fail;refine (yb false v _ w2 HV.o).mono ?_;rintro e w3 ⟨v3,rfl,ae,L⟩;obtain ⟨x',A',k',c',aa,rfl,_,_,_⟩:=ae.form;have I:=zf w3 (.cells #[.int .i64 x',.slice A' k' c',.bool aa] 58);have ah:=ze (ae.below I);have G:=(K.o.below L K.o.lt).below I (K.o.below L K.o.lt).lt;have aj:=ze (ext (ext ar.o L) I);have af:=ze G;have r0:=G.cell 0;have r1:=G.cell 1;have r2:=G.cell 2;have r3:=G.cell 3;have r4:=G.cell 4;have r5:=G.cell 5;obtain ⟨f0,f1,f2,f3,f4⟩:=fp5 G
         have f5:=G.frozen 5;simp at r0 r1 r2 r3 r4 r5;have kX:=Blk.new w3 58 #[.int .i64 x',.slice A' k' c',.bool aa];obtain ⟨g0,g1,g2,_⟩:=bp3 kX;clear L ae I G kX lR;go_wp2_with fail;have ab:=yj (x:=x') (A:=A') (k:=k') (c:=c') (s:=aa) (y:=1) (B:=none) (k' :=0) (c' :=0) (t:=false) af.o;have m:=ab.cell 0;have r:=ab.cell 1;have C:=ab.cell 2;have E:=ab.cell 3;have D:=ab.cell 4;have z:=ab.cell 5;simp only [World.rat] at m r C E D z;simp at m r C E D z;refine bodyPost_ret (v:=.tuple #[.agg #[.int .i64 x',.slice A' k' c',.bool aa,.int .i64 1,.slice none 0 0,.bool false],.bool true]) (by simp [results,results18,go_sem,m,r,C,E,D,z]) rfl ?_;refine xM.yes F.o ⟨_,_,_,_,_,_,_,_,_,_,rfl,?_,?_⟩ (ye aj.o (uA))
         . rw [(Y9 _ _).1]
           exact yl ah.o af.o
         rw [(Y9 _ _).2]
         exact zir _
       | true=>
         cases hpb2:zX (bts b) with
         | false=>
           have F:=ze (Zs HI.o.symm (.inl (by have:=HB.o;rw [if_pos rfl] at this;rw [<- this];exact hpb2)));rw [hpb2] at M;clear hpb2 za N zc;go_wp2_with fail;refine (M _).mono ?_;rintro e w2 ⟨rfl,rfl⟩;go_wp2_with fail;have j:=yj (x:=0) (A:=none) (k:=0) (c:=0) (s:=false) (y:=0) (B:=none) (k' :=0) (c' :=0) (t:=false) V.o;have m:=j.cell 0;have r:=j.cell 1;have C:=j.cell 2;have E:=j.cell 3;have D:=j.cell 4;have z:=j.cell 5;simp only [World.rat] at m r C E D z;simp at m r C E D z;refine bodyPost_ret (v:=.tuple #[.agg #[.int .i64 0,.slice none 0 0,.bool false,.int .i64 0,.slice none 0 0,.bool false],.bool false]) (by simp [results,results18,go_sem,m,r,C,E,D,z]) rfl ?_;exact xM.no F.o ⟨_,_,_,_,_,_,_,_,_,_,rfl⟩ (ye (x:=0) (A:=none) (k:=0) (c:=0) (s:=false) (y:=0) (B:=none) (k' :=0) (c' :=0) (t:=false) ac.o (uA))
         | true=>
           have au:=ze hpb2;rw [hpb2] at M;clear hpb2
           cases zb1:(b.toList == [48]) with
           | true=>
             have F:=ze (Zs HI.o.symm (.inr (.inl (by have:=HB.o;rw [if_pos rfl] at this;rw [<- this];exact uG (N.symm.trans zb1)))));clear za N zc;go_wp2_with fail;refine (M _).mono ?_;rintro e w2 ⟨rfl,rfl⟩;go_wp2_with fail;have j:=yj (x:=0) (A:=none) (k:=0) (c:=0) (s:=false) (y:=0) (B:=none) (k' :=0) (c' :=0) (t:=false) V.o;have m:=j.cell 0;have r:=j.cell 1;have C:=j.cell 2;have E:=j.cell 3;have D:=j.cell 4;have z:=j.cell 5;simp only [World.rat] at m r C E D z;simp at m r C E D z;refine bodyPost_ret (v:=.tuple #[.agg #[.int .i64 0,.slice none 0 0,.bool false,.int .i64 0,.slice none 0 0,.bool false],.bool false]) (by simp [results,results18,go_sem,m,r,C,E,D,z]) rfl ?_;exact xM.no F.o ⟨_,_,_,_,_,_,_,_,_,_,rfl⟩ (ye (x:=0) (A:=none) (k:=0) (c:=0) (s:=false) (y:=0) (B:=none) (k' :=0) (c' :=0) (t:=false) ac.o (uA))
           | false=>
             cases zc1:(b.toList == [49]) with
             | true=>
               have F:=ze (Zs HI.o.symm (.inr (.inr (.inl (by have:=HB.o;rw [if_pos rfl] at this;rw [<- this];exact uG (zc.symm.trans zc1))))));clear za N zc;go_wp2_with fail;refine (M _).mono ?_;rintro e w2 ⟨rfl,rfl⟩;go_wp2_with fail;have j:=yj (x:=0) (A:=none) (k:=0) (c:=0) (s:=false) (y:=0) (B:=none) (k' :=0) (c' :=0) (t:=false) V.o;have m:=j.cell 0;have r:=j.cell 1;have C:=j.cell 2;have E:=j.cell 3;have D:=j.cell 4;have z:=j.cell 5;simp only [World.rat] at m r C E D z;simp at m r C E D z;refine bodyPost_ret (v:=.tuple #[.agg #[.int .i64 0,.slice none 0 0,.bool false,.int .i64 0,.slice none 0 0,.bool false],.bool false]) (by simp [results,results18,go_sem,m,r,C,E,D,z]) rfl ?_;exact xM.no F.o ⟨_,_,_,_,_,_,_,_,_,_,rfl⟩ (ye (x:=0) (A:=none) (k:=0) (c:=0) (s:=false) (y:=0) (B:=none) (k' :=0) (c' :=0) (t:=false) ac.o (uA))
             | false=>
               have ag:=ze (show bts b=yo 47 (zq (bts s)) by rw [HB.o];rfl);have HD:=ze (ZX au.o);have F:=ze (zhy ak.o (fun h=>by rw [<- HN.o] at h;cases h) HI.o.symm (by rw [<- ag.o];exact au.o) (fun h=>by have:=N.symm.trans zb1;rw [uE (ag.o.trans h)] at this;cases this) (fun h=>by have:=zc.symm.trans zc1;rw [uE (ag.o.trans h)] at this;cases this));have aG:=ze (Vr (l:=yo 47 (zq (bts s))) (by rw [<- ag.o];exact au.o) (fun h=>by have:=N.symm.trans zb1;rw [uE (ag.o.trans h)] at this;cases this));have aq:=ze (VE (l:=yo 47 (zq (bts s))) (by rw [<- ag.o];exact au.o));have aR:=ze (VE ak.o);have HC:=ze (ZX ak.o);rw [<- HN.o] at F;have ay:=ze (show a.size<=50000 by rw [<- zt,HA.o];exact HC.o.2);have bj:=ze (show b.size<=50000 by rw [<- zt];exact HD.o.2);clear za N zc;go_wp2_with fail;refine (M _).mono ?_;rintro e w2 ⟨rfl,rfl⟩;clear M;obtain ⟨dn,hdn⟩:=uQ (zQ (yo 47 (zq (bts s))));obtain ⟨nn,az⟩:=uQ (zQ (ahead 47 (zq (bts s))));rw [<- hdn, <- az] at F
               rw [<- hdn] at aG aq;rw [<- az] at aR;have a2:=ze hdn;have be:=ze az;clear hdn az;go_wp2_with fail;refine (Ya a _ (by rw [HA.o];exact HC.o.1) ay.o).mono ?_;rintro e w2 ⟨v,rfl,hv,ad⟩;rw [HA.o, <- be.o] at hv;have HV:=ze hv;have K:=ze (V.o.below ad lR);have ar:=ze (ext ac.o ad);clear hv ad r0 r1 r2 r3 r4 r5 f0 f1 f2 f3 f4 f5;go_wp2_with fail;refine (yb false v _ w2 HV.o).mono ?_;rintro e w3 ⟨v3,rfl,ae,L⟩;obtain ⟨x',A',k',c',aa,rfl,_,_,_⟩:=ae.form;have I:=zf w3 (.cells #[.int .i64 x',.slice A' k' c',.bool aa] 58);have ah:=ze (ae.below I);have G:=(K.o.below L K.o.lt).below I (K.o.below L K.o.lt).lt;have aj:=ze (ext (ext ar.o L) I);have af:=ze G;have kX:=Blk.new w3 58 #[.int .i64 x',.slice A' k' c',.bool aa];have ap:=ze kX;have aX:w.heap.size<w3.heap.size:=(K.o.below L K.o.lt).lt;clear L ae I G kX lR;go_wp2_with fail;generalize a3:w3.heap.size=gx at ap aX |-;generalize w3.alloc (.cells #[.int .i64 x',.slice A' k' c',.bool aa] 58)=W3 at ah af aj ap |-
               clear a3;refine (Ya b _ HD.o.1 bj.o).mono ?_;rintro e w4 ⟨v4,rfl,aE,I⟩;rw [ag.o, <- a2.o] at aE;have bd:=ze aE;have aS:=ze (ah.o.below I);have am:=ze (af.o.below I af.o.lt);have aM:=ze (ap.o.below I ap.o.lt);have aT:=ze (ext aj.o I);clear aE I;go_wp2_with fail;refine (yb false v4 _ w4 bd.o).mono ?_;rintro e w5 ⟨v5,rfl,aF,aK⟩;obtain ⟨y',B',m',d',an,rfl,_,_,_⟩:=aF.form;have aI:=zf w5 (.cells #[.int .i64 y',.slice B' m' d',.bool an] 58);have O:=ext aK aI;have ax:=ze (aF.below aI);have aB:=ze (aS.o.below O);have ai:=ze (am.o.below O am.o.lt);have aC:=ze (aM.o.below O aM.o.lt);have aJ:=ze (ext aT.o O);have ao:=ze (Blk.new w5 58 #[.int .i64 y',.slice B' m' d',.bool an]);have bi:w.heap.size<w5.heap.size:=(am.o.below aK am.o.lt).lt;obtain ⟨x0,x1,x2,_⟩:=bq3 aC;clear aK aI O aF;go_wp2_with fail;generalize bg:w5.heap.size=gy at ao bi |-
               generalize w5.alloc (.cells #[.int .i64 y',.slice B' m' d',.bool an] 58)=W5 at ax aB ai aC aJ ao x0 x1 x2 |-;clear bg;refine (Yd _ _ (signed false nn) (signed false dn) _ aB.o ax.o (by have:=aG.o;unfold signed;simp;omega) (uC (xW aR.o) (by omega)) (uC (xW aq.o) (by omega))).mono ?_;rintro e w6 ⟨v6,rfl,hq,aN⟩;rw [Yf] at hq;obtain ⟨q,aH⟩:=uQ (Yb false nn dn);rw [<- aH] at hq F;obtain ⟨S,R,U,c5,Q,x6,X,Z,T,Y,rfl,aV,aQ⟩:=hq;have av:=zf w6 (.cells #[.int .i64 S,.slice R U c5,.bool Q,.int .i64 x6,.slice X Z T,.bool Y] 60);have O:=ext aN av;have aA:=ze (aV.below av);have aL:=ze (aQ.below av);have aD:=ze (ax.o.below O);have aU:=ze (show Xu _ w.heap.size from ⟨_,_,_,_,_,_,_,_,_,_,ai.o.below O ai.o.lt⟩);have aO:=ze (ao.o.below O ao.o.lt);have aW:=ze (ext aJ.o O);have aw:=ze (Blk.new w6 60 #[.int .i64 S,.slice R U c5,.bool Q,.int .i64 x6,.slice X Z T,.bool Y]);have aZ:w.heap.size<w6.heap.size:=(ai.o.below aN ai.o.lt).lt
               have a0:=ze (show len 4294967296 (q.den:Int).natAbs<=67108864 by
                rw [aH, <- Yf];have h9:=X5 (zn:=signed false nn) (zd:=signed false dn) (by have:=aG.o;unfold signed;simp;omega) (uC (xW aq.o) (by omega));rw [h9.2.1]
                refine uC (Yk (by omega) (Int.natAbs_tdiv_le_natAbs _ _)) (uC (xW aq.o) (by omega)))
               clear aN av O aV aQ x0 x1 x2 ap aM aC af am ai ao ah aS aB ax ac ar aj aT aJ V K aH;go_wp2_with fail;generalize aY:w6.heap.size=gq at aw aZ |-;generalize w6.alloc (.cells #[.int .i64 S,.slice R U c5,.bool Q,.int .i64 x6,.slice X Z T,.bool Y] 60)=W7 at aA aL aD aU aO aW aw |-;clear aY;have br:=aw.o.lt;have bv:=aO.o.lt;obtain ⟨q0,q1,q2,q3,q4,q5,_⟩:=bq6 aw;obtain ⟨y0,y1,y2,_⟩:=bq3 aO;have a1:=ze (show Xu W7.drew w.heap.size from aU.o);have bc:=ze (show Below w.heap.size w W7.drew from zo aW.o 1);have a9:=ze (show zN W7.drew _ q.num from aA.o.below (yD W7 1));have bf:=ze (show zN W7.drew _ (q.den:Int) from aL.o.below (yD W7 1));have a7:=ze (show zN W7.drew _ (signed false dn) from aD.o.below (yD W7 1));clear aA aL aD
               go_region_held3 (fun w' =>w'.cell? ⟨gq,0,none⟩=some (.int .i64 S)/\w'.cell? ⟨gq,1,none⟩=some (.slice R U c5)/\w'.cell? ⟨gq,2,none⟩=some (.bool Q)/\w'.cell? ⟨gq,3,none⟩=some (.int .i64 x6)/\w'.cell? ⟨gq,4,none⟩=some (.slice X Z T)/\w'.cell? ⟨gq,5,none⟩=some (.bool Y)/\
                w'.cell? ⟨gy,0,none⟩=some (.int .i64 y')/\w'.cell? ⟨gy,1,none⟩=some (.slice B' m' d')/\w'.cell? ⟨gy,2,none⟩=some (.bool an)/\gq<w'.heap.size/\gy<w'.heap.size/\Hid (Xu w' w.heap.size)/\Hid (Below w.heap.size w w')/\Hid (zN w' (.agg #[.int .i64 S,.slice R U c5,.bool Q]) q.num)/\Hid (zN w' (.agg #[.int .i64 x6,.slice X Z T,.bool Y]) (q.den:Int))/\Hid (zN w' (.agg #[.int .i64 y',.slice B' m' d',.bool an]) (signed false dn)))
                (first
                  | with_reducible exact ⟨by go_keep,by go_keep,by go_keep,by go_keep,by go_keep,by go_keep,by go_keep,by go_keep,by go_keep,by first | (simp;done) | (simp;assumption),by first | (simp;done) | (simp;assumption),a1,bc,a9,bf,a7⟩
                  | (go_split_ands;with_reducible exact ⟨zF (by omega) ‹_›,zF (by omega) ‹_›,zF (by omega) ‹_›,zF (by omega) ‹_›,zF (by omega) ‹_›,zF (by omega) ‹_›,zF (by omega) ‹_›,zF (by omega) ‹_›,zF (by omega) ‹_›,ZG ‹_›,ZG ‹_›,ZQ ‹_›,Zb (by omega) ‹_›,Zn ‹_› ‹_›,Zn ‹_› ‹_›,Zn ‹_› ‹_›⟩)
                  | (go_split_ands;with_reducible exact ⟨zi ‹_› ‹_› ‹_›,zi ‹_› ‹_› ‹_›,zi ‹_› ‹_› ‹_›,zi ‹_› ‹_› ‹_›,zi ‹_› ‹_› ‹_›,zi ‹_› ‹_› ‹_›,zi ‹_› ‹_› ‹_›,zi ‹_› ‹_› ‹_›,zi ‹_› ‹_› ‹_›,zY ‹_› ‹_›,zY ‹_› ‹_›,Yt ‹_› ‹_›,zp ‹_› ‹_›,zam ‹_› ‹_›,zam ‹_› ‹_›,zam ‹_› ‹_›⟩)
                  | go_keep)
                (first
                  | (go_at_call 48;refine (zc8 _ _ (q.den:Int) (signed false dn) _ (zW (by go_split_ands;assumption)) (zW (by go_split_ands;assumption)) a0.o (uC (xW aq.o) (by omega))).mono ?_;rintro e wo ⟨rfl,a6⟩;obtain ⟨xr,Ar,kr,cr,sr,yr,Br,bu,bs,tr,J⟩:=(Yt (g:=w.heap.size) a6 (by go_split_ands;assumption)).out;have r0:=J.cell 0;have r1:=J.cell 1;have r2:=J.cell 2;have r3:=J.cell 3;have r4:=J.cell 4;have r5:=J.cell 5;have f0:=J.frozen 0;have f1:=J.frozen 1;have f2:=J.frozen 2;have f3:=J.frozen 3;have f4:=J.frozen 4;have f5:=J.frozen 5;simp at r0 r1 r2 r3 r4 r5;have V:=ze J;clear J))
               all_goals
                go_split_ands;have j:=yj (x:=S) (A:=R) (k:=U) (c:=c5) (s:=Q) (y:=x6) (B:=X) (k' :=Z) (c' :=T) (t:=Y) V.o;have bk:=zW (by assumption:Hid (zN (World.rat wo w.heap.size S R U c5 Q x6 X Z T Y) (.agg #[.int .i64 S,.slice R U c5,.bool Q]) q.num));have a8:=zW (by assumption:Hid (zN (World.rat wo w.heap.size S R U c5 Q x6 X Z T Y) (.agg #[.int .i64 x6,.slice X Z T,.bool Y]) (q.den:Int)));have bb:=zW (by assumption:Hid (Below w.heap.size w (World.rat wo w.heap.size S R U c5 Q x6 X Z T Y)));have m:=j.cell 0;have r:=j.cell 1;have C:=j.cell 2;have E:=j.cell 3;have D:=j.cell 4;have z:=j.cell 5;simp only [World.rat] at m r C E D z;simp at m r C E D z;go_wp2;refine bodyPost_ret (v:=.tuple #[.agg #[.int .i64 S,.slice R U c5,.bool Q,.int .i64 x6,.slice X Z T,.bool Y],.bool (zZ (q.den:Int) (signed false dn) == 0)]) (by simp [results,results18,go_sem,m,r,C,E,D,z]) rfl ?_;exact xM.maybe F.o ⟨_,_,_,_,_,_,_,_,_,_,rfl,bk,a8⟩ bb
   | true=>
     cases za1:(a.toList == [48]) with
     | true=>
       have F:=ze (zry HN.o.symm (uG (by rw [<- za];exact za1)));clear za N zc M;go_wp2_with fail;have j:=yj (x:=0) (A:=none) (k:=0) (c:=0) (s:=false) (y:=0) (B:=none) (k' :=0) (c' :=0) (t:=false) V.o;have m:=j.cell 0;have r:=j.cell 1;have C:=j.cell 2;have E:=j.cell 3;have D:=j.cell 4;have z:=j.cell 5;simp only [World.rat] at m r C E D z;simp at m r C E D z;refine bodyPost_ret (v:=.tuple #[.agg #[.int .i64 0,.slice none 0 0,.bool false,.int .i64 0,.slice none 0 0,.bool false],.bool false]) (by simp [results,results18,go_sem,m,r,C,E,D,z]) rfl ?_;exact xM.no F.o ⟨_,_,_,_,_,_,_,_,_,_,rfl⟩ (ye (x:=0) (A:=none) (k:=0) (c:=0) (s:=false) (y:=0) (B:=none) (k' :=0) (c' :=0) (t:=false) ac.o (uA))
     | false=>
       cases bh with
       | false=>
         have F:=ze (VM ak.o (fun _ h=>by have:=za.symm.trans za1;rw [uE h] at this;cases this) HI.o.symm);have HC:=ze (ZX ak.o);rw [<- HN.o] at F;have ay:=ze (show a.size<=50000 by rw [<- zt,HA.o];exact HC.o.2);clear za N zc M;go_wp2_with fail;refine (Ya a _ (by rw [HA.o];exact HC.o.1) ay.o).mono ?_;rintro e w2 ⟨v,rfl,hv,ad⟩;rw [HA.o] at hv;have HV:=ze hv;have K:=ze (V.o.below ad lR);have ar:=ze (ext ac.o ad);clear hv ad r0 r1 r2 r3 r4 r5 f0 f1 f2 f3 f4 f5;go_wp2_with fail;refine (yb true v _ w2 HV.o).mono ?_;rintro e w3 ⟨v3,rfl,ae,L⟩;obtain ⟨x',A',k',c',aa,rfl,_,_,_⟩:=ae.form;have I:=zf w3 (.cells #[.int .i64 x',.slice A' k' c',.bool aa] 58);have ah:=ze (ae.below I);have G:=(K.o.below L K.o.lt).below I (K.o.below L K.o.lt).lt;have aj:=ze (ext (ext ar.o L) I);have af:=ze G;have r0:=G.cell 0;have r1:=G.cell 1;have r2:=G.cell 2;have r3:=G.cell 3;have r4:=G.cell 4;have r5:=G.cell 5;obtain ⟨f0,f1,f2⟩:=fp3 G
         have f3:=G.frozen 3;have f4:=G.frozen 4;have f5:=G.frozen 5;simp at r0 r1 r2 r3 r4 r5;have kX:=Blk.new w3 58 #[.int .i64 x',.slice A' k' c',.bool aa];obtain ⟨g0,g1,g2,_⟩:=bp3 kX;clear L ae I G kX lR;go_wp2_with fail;have ab:=yj (x:=x') (A:=A') (k:=k') (c:=c') (s:=aa) (y:=1) (B:=none) (k' :=0) (c' :=0) (t:=false) af.o;have m:=ab.cell 0;have r:=ab.cell 1;have C:=ab.cell 2;have E:=ab.cell 3;have D:=ab.cell 4;have z:=ab.cell 5;simp only [World.rat] at m r C E D z;simp at m r C E D z;refine bodyPost_ret (v:=.tuple #[.agg #[.int .i64 x',.slice A' k' c',.bool aa,.int .i64 1,.slice none 0 0,.bool false],.bool true]) (by simp [results,results18,go_sem,m,r,C,E,D,z]) rfl ?_;refine xM.yes F.o ⟨_,_,_,_,_,_,_,_,_,_,rfl,?_,?_⟩ (ye aj.o (uA))
         . rw [(Y9 _ _).1]
           exact yl ah.o af.o
         rw [(Y9 _ _).2]
         exact zir _
       | true=>
         cases hpb2:zX (bts b) with
         | false=>
           have F:=ze (Zs HI.o.symm (.inl (by have:=HB.o;rw [if_pos rfl] at this;rw [<- this];exact hpb2)));rw [hpb2] at M;clear hpb2 za N zc;go_wp2_with fail;refine (M _).mono ?_;rintro e w2 ⟨rfl,rfl⟩;go_wp2_with fail;have j:=yj (x:=0) (A:=none) (k:=0) (c:=0) (s:=false) (y:=0) (B:=none) (k' :=0) (c' :=0) (t:=false) V.o;have m:=j.cell 0;have r:=j.cell 1;have C:=j.cell 2;have E:=j.cell 3;have D:=j.cell 4;have z:=j.cell 5;simp only [World.rat] at m r C E D z;simp at m r C E D z;refine bodyPost_ret (v:=.tuple #[.agg #[.int .i64 0,.slice none 0 0,.bool false,.int .i64 0,.slice none 0 0,.bool false],.bool false]) (by simp [results,results18,go_sem,m,r,C,E,D,z]) rfl ?_;exact xM.no F.o ⟨_,_,_,_,_,_,_,_,_,_,rfl⟩ (ye (x:=0) (A:=none) (k:=0) (c:=0) (s:=false) (y:=0) (B:=none) (k' :=0) (c' :=0) (t:=false) ac.o (uA))
         | true=>
           have au:=ze hpb2;rw [hpb2] at M;clear hpb2
           cases zb1:(b.toList == [48]) with
           | true=>
             have F:=ze (Zs HI.o.symm (.inr (.inl (by have:=HB.o;rw [if_pos rfl] at this;rw [<- this];exact uG (N.symm.trans zb1)))));clear za N zc;go_wp2_with fail;refine (M _).mono ?_;rintro e w2 ⟨rfl,rfl⟩;go_wp2_with fail;have j:=yj (x:=0) (A:=none) (k:=0) (c:=0) (s:=false) (y:=0) (B:=none) (k' :=0) (c' :=0) (t:=false) V.o;have m:=j.cell 0;have r:=j.cell 1;have C:=j.cell 2;have E:=j.cell 3;have D:=j.cell 4;have z:=j.cell 5;simp only [World.rat] at m r C E D z;simp at m r C E D z;refine bodyPost_ret (v:=.tuple #[.agg #[.int .i64 0,.slice none 0 0,.bool false,.int .i64 0,.slice none 0 0,.bool false],.bool false]) (by simp [results,results18,go_sem,m,r,C,E,D,z]) rfl ?_;exact xM.no F.o ⟨_,_,_,_,_,_,_,_,_,_,rfl⟩ (ye (x:=0) (A:=none) (k:=0) (c:=0) (s:=false) (y:=0) (B:=none) (k' :=0) (c' :=0) (t:=false) ac.o (uA))
           | false=>
             cases zc1:(b.toList == [49]) with
             | true=>
               have F:=ze (Zs HI.o.symm (.inr (.inr (.inl (by have:=HB.o;rw [if_pos rfl] at this;rw [<- this];exact uG (zc.symm.trans zc1))))));clear za N zc;go_wp2_with fail;refine (M _).mono ?_;rintro e w2 ⟨rfl,rfl⟩;go_wp2_with fail;have j:=yj (x:=0) (A:=none) (k:=0) (c:=0) (s:=false) (y:=0) (B:=none) (k' :=0) (c' :=0) (t:=false) V.o;have m:=j.cell 0;have r:=j.cell 1;have C:=j.cell 2;have E:=j.cell 3;have D:=j.cell 4;have z:=j.cell 5;simp only [World.rat] at m r C E D z;simp at m r C E D z;refine bodyPost_ret (v:=.tuple #[.agg #[.int .i64 0,.slice none 0 0,.bool false,.int .i64 0,.slice none 0 0,.bool false],.bool false]) (by simp [results,results18,go_sem,m,r,C,E,D,z]) rfl ?_;exact xM.no F.o ⟨_,_,_,_,_,_,_,_,_,_,rfl⟩ (ye (x:=0) (A:=none) (k:=0) (c:=0) (s:=false) (y:=0) (B:=none) (k' :=0) (c' :=0) (t:=false) ac.o (uA))
             | false=>
               have ag:=ze (show bts b=yo 47 (zq (bts s)) by rw [HB.o];rfl);have HD:=ze (ZX au.o);have F:=ze (zhy ak.o (fun _ h=>by have:=za.symm.trans za1;rw [uE h] at this;cases this) HI.o.symm (by rw [<- ag.o];exact au.o) (fun h=>by have:=N.symm.trans zb1;rw [uE (ag.o.trans h)] at this;cases this) (fun h=>by have:=zc.symm.trans zc1;rw [uE (ag.o.trans h)] at this;cases this));have aG:=ze (Vr (l:=yo 47 (zq (bts s))) (by rw [<- ag.o];exact au.o) (fun h=>by have:=N.symm.trans zb1;rw [uE (ag.o.trans h)] at this;cases this));have aq:=ze (VE (l:=yo 47 (zq (bts s))) (by rw [<- ag.o];exact au.o));have aR:=ze (VE ak.o);have HC:=ze (ZX ak.o);rw [<- HN.o] at F;have ay:=ze (show a.size<=50000 by rw [<- zt,HA.o];exact HC.o.2);have bj:=ze (show b.size<=50000 by rw [<- zt];exact HD.o.2);clear za N zc;go_wp2_with fail;refine (M _).mono ?_;rintro e w2 ⟨rfl,rfl⟩;clear M;obtain ⟨dn,hdn⟩:=uQ (zQ (yo 47 (zq (bts s))))
               obtain ⟨nn,az⟩:=uQ (zQ (ahead 47 (zq (bts s))));rw [<- hdn, <- az] at F;rw [<- hdn] at aG aq;rw [<- az] at aR;have a2:=ze hdn;have be:=ze az;clear hdn az;go_wp2_with fail;refine (Ya a _ (by rw [HA.o];exact HC.o.1) ay.o).mono ?_;rintro e w2 ⟨v,rfl,hv,ad⟩;rw [HA.o, <- be.o] at hv;have HV:=ze hv;have K:=ze (V.o.below ad lR);have ar:=ze (ext ac.o ad);clear hv ad r0 r1 r2 r3 r4 r5 f0 f1 f2 f3 f4 f5;go_wp2_with fail;refine (yb true v _ w2 HV.o).mono ?_;rintro e w3 ⟨v3,rfl,ae,L⟩;obtain ⟨x',A',k',c',aa,rfl,_,_,_⟩:=ae.form;have I:=zf w3 (.cells #[.int .i64 x',.slice A' k' c',.bool aa] 58);have ah:=ze (ae.below I);have G:=(K.o.below L K.o.lt).below I (K.o.below L K.o.lt).lt;have aj:=ze (ext (ext ar.o L) I);have af:=ze G;have kX:=Blk.new w3 58 #[.int .i64 x',.slice A' k' c',.bool aa];have ap:=ze kX;have aX:w.heap.size<w3.heap.size:=(K.o.below L K.o.lt).lt;clear L ae I G kX lR;go_wp2_with fail;generalize a3:w3.heap.size=gx at ap aX |-
               generalize w3.alloc (.cells #[.int .i64 x',.slice A' k' c',.bool aa] 58)=W3 at ah af aj ap |-;clear a3;refine (Ya b _ HD.o.1 bj.o).mono ?_;rintro e w4 ⟨v4,rfl,aE,I⟩;rw [ag.o, <- a2.o] at aE;have bd:=ze aE;have aS:=ze (ah.o.below I);have am:=ze (af.o.below I af.o.lt);have aM:=ze (ap.o.below I ap.o.lt);have aT:=ze (ext aj.o I);clear aE I;go_wp2_with fail;refine (yb false v4 _ w4 bd.o).mono ?_;rintro e w5 ⟨v5,rfl,aF,aK⟩;obtain ⟨y',B',m',d',an,rfl,_,_,_⟩:=aF.form;have aI:=zf w5 (.cells #[.int .i64 y',.slice B' m' d',.bool an] 58);have O:=ext aK aI;have ax:=ze (aF.below aI);have aB:=ze (aS.o.below O);have ai:=ze (am.o.below O am.o.lt);have aC:=ze (aM.o.below O aM.o.lt);have aJ:=ze (ext aT.o O);have ao:=ze (Blk.new w5 58 #[.int .i64 y',.slice B' m' d',.bool an]);have bi:w.heap.size<w5.heap.size:=(am.o.below aK am.o.lt).lt;obtain ⟨x0,x1,x2,_⟩:=bq3 aC;clear aK aI O aF
               go_wp2_with fail;generalize bg:w5.heap.size=gy at ao bi |-;generalize w5.alloc (.cells #[.int .i64 y',.slice B' m' d',.bool an] 58)=W5 at ax aB ai aC aJ ao x0 x1 x2 |-;clear bg;refine (Yd _ _ (signed true nn) (signed false dn) _ aB.o ax.o (by have:=aG.o;unfold signed;simp;omega) (uC (xW aR.o) (by omega)) (uC (xW aq.o) (by omega))).mono ?_;rintro e w6 ⟨v6,rfl,hq,aN⟩;rw [Yf] at hq;obtain ⟨q,aH⟩:=uQ (Yb true nn dn);rw [<- aH] at hq F;obtain ⟨S,R,U,c5,Q,x6,X,Z,T,Y,rfl,aV,aQ⟩:=hq;have av:=zf w6 (.cells #[.int .i64 S,.slice R U c5,.bool Q,.int .i64 x6,.slice X Z T,.bool Y] 60);have O:=ext aN av;have aA:=ze (aV.below av);have aL:=ze (aQ.below av);have aD:=ze (ax.o.below O);have aU:=ze (show Xu _ w.heap.size from ⟨_,_,_,_,_,_,_,_,_,_,ai.o.below O ai.o.lt⟩);have aO:=ze (ao.o.below O ao.o.lt);have aW:=ze (ext aJ.o O);have aw:=ze (Blk.new w6 60 #[.int .i64 S,.slice R U c5,.bool Q,.int .i64 x6,.slice X Z T,.bool Y])
               have aZ:w.heap.size<w6.heap.size:=(ai.o.below aN ai.o.lt).lt
               have a0:=ze (show len 4294967296 (q.den:Int).natAbs<=67108864 by
                rw [aH, <- Yf];have h9:=X5 (zn:=signed true nn) (zd:=signed false dn) (by have:=aG.o;unfold signed;simp;omega) (uC (xW aq.o) (by omega));rw [h9.2.1]
                refine uC (Yk (by omega) (Int.natAbs_tdiv_le_natAbs _ _)) (uC (xW aq.o) (by omega)))
               clear aN av O aV aQ x0 x1 x2 ap aM aC af am ai ao ah aS aB ax ac ar aj aT aJ V K aH;go_wp2_with fail;generalize aY:w6.heap.size=gq at aw aZ |-;generalize w6.alloc (.cells #[.int .i64 S,.slice R U c5,.bool Q,.int .i64 x6,.slice X Z T,.bool Y] 60)=W7 at aA aL aD aU aO aW aw |-;clear aY;have br:=aw.o.lt;have bv:=aO.o.lt;obtain ⟨q0,q1,q2,q3,q4,q5,_⟩:=bq6 aw;obtain ⟨y0,y1,y2,_⟩:=bq3 aO;have a1:=ze (show Xu W7.drew w.heap.size from aU.o);have bc:=ze (show Below w.heap.size w W7.drew from zo aW.o 1);have a9:=ze (show zN W7.drew _ q.num from aA.o.below (yD W7 1));have bf:=ze (show zN W7.drew _ (q.den:Int) from aL.o.below (yD W7 1));have a7:=ze (show zN W7.drew _ (signed false dn) from aD.o.below (yD W7 1));clear aA aL aD
               go_region_held3 (fun w' =>w'.cell? ⟨gq,0,none⟩=some (.int .i64 S)/\w'.cell? ⟨gq,1,none⟩=some (.slice R U c5)/\w'.cell? ⟨gq,2,none⟩=some (.bool Q)/\w'.cell? ⟨gq,3,none⟩=some (.int .i64 x6)/\w'.cell? ⟨gq,4,none⟩=some (.slice X Z T)/\w'.cell? ⟨gq,5,none⟩=some (.bool Y)/\
                w'.cell? ⟨gy,0,none⟩=some (.int .i64 y')/\w'.cell? ⟨gy,1,none⟩=some (.slice B' m' d')/\w'.cell? ⟨gy,2,none⟩=some (.bool an)/\gq<w'.heap.size/\gy<w'.heap.size/\Hid (Xu w' w.heap.size)/\Hid (Below w.heap.size w w')/\Hid (zN w' (.agg #[.int .i64 S,.slice R U c5,.bool Q]) q.num)/\Hid (zN w' (.agg #[.int .i64 x6,.slice X Z T,.bool Y]) (q.den:Int))/\Hid (zN w' (.agg #[.int .i64 y',.slice B' m' d',.bool an]) (signed false dn)))
                (first
                  | with_reducible exact ⟨by go_keep,by go_keep,by go_keep,by go_keep,by go_keep,by go_keep,by go_keep,by go_keep,by go_keep,by first | (simp;done) | (simp;assumption),by first | (simp;done) | (simp;assumption),a1,bc,a9,bf,a7⟩
                  | (go_split_ands;with_reducible exact ⟨zF (by omega) ‹_›,zF (by omega) ‹_›,zF (by omega) ‹_›,zF (by omega) ‹_›,zF (by omega) ‹_›,zF (by omega) ‹_›,zF (by omega) ‹_›,zF (by omega) ‹_›,zF (by omega) ‹_›,ZG ‹_›,ZG ‹_›,ZQ ‹_›,Zb (by omega) ‹_›,Zn ‹_› ‹_›,Zn ‹_› ‹_›,Zn ‹_› ‹_›⟩)
                  | (go_split_ands;with_reducible exact ⟨zi ‹_› ‹_› ‹_›,zi ‹_› ‹_› ‹_›,zi ‹_› ‹_› ‹_›,zi ‹_› ‹_› ‹_›,zi ‹_› ‹_› ‹_›,zi ‹_› ‹_› ‹_›,zi ‹_› ‹_› ‹_›,zi ‹_› ‹_› ‹_›,zi ‹_› ‹_› ‹_›,zY ‹_› ‹_›,zY ‹_› ‹_›,Yt ‹_› ‹_›,zp ‹_› ‹_›,zam ‹_› ‹_›,zam ‹_› ‹_›,zam ‹_› ‹_›⟩)
                  | go_keep)
                (first
                  | (go_at_call 48;refine (zc8 _ _ (q.den:Int) (signed false dn) _ (zW (by go_split_ands;assumption)) (zW (by go_split_ands;assumption)) a0.o (uC (xW aq.o) (by omega))).mono ?_;rintro e wo ⟨rfl,a6⟩;obtain ⟨xr,Ar,kr,cr,sr,yr,Br,bu,bs,tr,J⟩:=(Yt (g:=w.heap.size) a6 (by go_split_ands;assumption)).out;have r0:=J.cell 0;have r1:=J.cell 1;have r2:=J.cell 2;have r3:=J.cell 3;have r4:=J.cell 4;have r5:=J.cell 5;have f0:=J.frozen 0;have f1:=J.frozen 1;have f2:=J.frozen 2;have f3:=J.frozen 3;have f4:=J.frozen 4;have f5:=J.frozen 5;simp at r0 r1 r2 r3 r4 r5;have V:=ze J;clear J))
               all_goals
                go_split_ands;have j:=yj (x:=S) (A:=R) (k:=U) (c:=c5) (s:=Q) (y:=x6) (B:=X) (k' :=Z) (c' :=T) (t:=Y) V.o;have bk:=zW (by assumption:Hid (zN (World.rat wo w.heap.size S R U c5 Q x6 X Z T Y) (.agg #[.int .i64 S,.slice R U c5,.bool Q]) q.num));have a8:=zW (by assumption:Hid (zN (World.rat wo w.heap.size S R U c5 Q x6 X Z T Y) (.agg #[.int .i64 x6,.slice X Z T,.bool Y]) (q.den:Int)));have bb:=zW (by assumption:Hid (Below w.heap.size w (World.rat wo w.heap.size S R U c5 Q x6 X Z T Y)));have m:=j.cell 0;have r:=j.cell 1;have C:=j.cell 2;have E:=j.cell 3;have D:=j.cell 4;have z:=j.cell 5;simp only [World.rat] at m r C E D z;simp at m r C E D z;go_wp2;refine bodyPost_ret (v:=.tuple #[.agg #[.int .i64 S,.slice R U c5,.bool Q,.int .i64 x6,.slice X Z T,.bool Y],.bool (zZ (q.den:Int) (signed false dn) == 0)]) (by simp [results,results18,go_sem,m,r,C,E,D,z]) rfl ?_;exact xM.maybe F.o ⟨_,_,_,_,_,_,_,_,_,_,rfl,bk,a8⟩ bb
def zvm (w:World) (la lb:List UInt8) (e:Ending) (w' :World):Prop:=
 ∃ v1 v2 b,e= .returned (.tuple #[v1,v2,.bool b])/\zvh v1/\zvh v2/\b=((zj la).isSome && (zj lb).isSome)/\(∀ q,zj la=some q->zV w' v1 q)/\(∀ q,zj lb=some q->zV w' v2 q)/\Below w.heap.size w w'
theorem zV.stored {W:World} {g:Nat} {v:Value} {q:Rat} {x y x0 y0:Int} {A B A0 B0:Option Addr} {k c k' c' k0 c0 k1 c1:Nat} {s t s0 t0:Bool} {t' :TypeId} (h:zV W v q)
 (hk:Blk W g t' #[.int .i64 x0,.slice A0 k0 c0,.bool s0,.int .i64 y0,.slice B0 k1 c1,.bool t0]):zV (World.rat W g x A k c s y B k' c' t) v q:=by
 obtain ⟨E,z,u,m,C,D,j,l,r,t5,rfl,e,b⟩:=h
 exact ⟨_,_,_,_,_,_,_,_,_,_,rfl,yl e hk,yl b hk⟩
theorem zt0 (a b:ByteArray) (w:World) (ha:a.size<=1073741824) (hb:b.size<=1073741824):
 Calls prog 61 #[.string a,.string b] w (zvm w (bts a) (bts b)):=by
 have an:=fun w=>Zu a w ha
 have al:=fun w=>Zu b w hb
 have kA:=(Blk.new w 60 #[.int .i64 0,.slice none 0 0,.bool false,.int .i64 0,.slice none 0 0,.bool false]).alloc (.cells #[.int .i64 0,.slice none 0 0,.bool false,.int .i64 0,.slice none 0 0,.bool false] 60)
 have kB:=Blk.new (w.alloc (.cells #[.int .i64 0,.slice none 0 0,.bool false,.int .i64 0,.slice none 0 0,.bool false] 60)) 60 #[.int .i64 0,.slice none 0 0,.bool false,.int .i64 0,.slice none 0 0,.bool false]
 have hW:=ext (zf w (.cells #[.int .i64 0,.slice none 0 0,.bool false,.int .i64 0,.slice none 0 0,.bool false] 60)) (zf _ (.cells #[.int .i64 0,.slice none 0 0,.bool false,.int .i64 0,.slice none 0 0,.bool false] 60))
 simp only [World.size_alloc] at kB
 go_in
 go_wp2_with fail
 generalize (w.alloc (.cells #[.int .i64 0,.slice none 0 0,.bool false,.int .i64 0,.slice none 0 0,.bool false] 60)).alloc (.cells #[.int .i64 0,.slice none 0 0,.bool false,.int .i64 0,.slice none 0 0,.bool false] 60)=W at kA kB hW |-
 refine (an _).mono ?_
 rintro e w1 ⟨v1,b1,rfl,⟨S,I,T,M,R,L,K,N,U,Q,rfl⟩,av,au,ag⟩
 have Y:=kA.below ag kA.lt
 have am:=kB.below ag kB.lt
 have a0:=Y.cell 0;have a1:=Y.cell 1;have a2:=Y.cell 2;have a3:=Y.cell 3;have a4:=Y.cell 4;have a5:=Y.cell 5;obtain ⟨f0,f1,f2,f3,f4,f5⟩:=fp6 Y;simp at a0 a1 a2 a3 a4 a5
 have ab:=ze (yj (x:=S) (A:=I) (k:=T) (c:=M) (s:=R) (y:=L) (B:=K) (k' :=N) (c' :=U) (t:=Q) Y)
 have ac:=ze (VP (g' :=w.heap.size) (x:=S) (A:=I) (k:=T) (c:=M) (s:=R) (y:=L) (B:=K) (k' :=N) (c' :=U) (t:=Q) am (by omega))
 have af:=ze (show ∀ q,zj (bts a)=some q->zV (World.rat w1 w.heap.size S I T M R L K N U Q) _ q from fun q hq=>(au q hq).stored Y)
 have ai:=ze (ye (g:=w.heap.size) (x:=S) (A:=I) (k:=T) (c:=M) (s:=R) (y:=L) (B:=K) (k' :=N) (c' :=U) (t:=Q) (ext hW ag) (uA))
 have ar:=ze av
 clear kA kB hW av au ag Y am an
 simp only [World.rat] at ab ac af ai
 go_wp2_with fail
 generalize (((((w1.setCell { block:=w.heap.size,off:=0 } (.int .i64 S)).setCell { block:=w.heap.size,off:=1 } (.slice I T M)).setCell { block:=w.heap.size,off:=2 } (.bool R)).setCell { block:=w.heap.size,off:=3 } (.int .i64 L)).setCell { block:=w.heap.size,off:=4 } (.slice K N U)).setCell { block:=w.heap.size,off:=5 } (.bool Q)=W1 at ab ac af ai |-
 clear a0 a1 a2 a3 a4 a5 f0 f1 f2 f3 f4 f5
 refine (al _).mono ?_
 rintro e w2 ⟨v2,b2,rfl,⟨m,F,r,l,E,G,C,z,u,D,rfl⟩,ao,ap,ad⟩
 have aq:=ab.o.below ad ab.o.lt
 have V:=ac.o.below ad ac.o.lt
 have a0:=V.cell 0;have a1:=V.cell 1;have a2:=V.cell 2;have a3:=V.cell 3;have a4:=V.cell 4;have a5:=V.cell 5;obtain ⟨f0,f1,f2,f3,f4,f5⟩:=fp6 V;simp at a0 a1 a2 a3 a4 a5
 have X:=ze (yj (x:=m) (A:=F) (k:=r) (c:=l) (s:=E) (y:=G) (B:=C) (k' :=z) (c' :=u) (t:=D) V)
 have j:=ze (VP (g' :=w.heap.size+1) (x:=m) (A:=F) (k:=r) (c:=l) (s:=E) (y:=G) (B:=C) (k' :=z) (c' :=u) (t:=D) aq (by omega))
 have ah :=ze (show ∀ q,zj (bts a)=some q->zV (World.rat w2 (w.heap.size+1) m F r l E G C z u D) _ q from fun q hq=>((af.o q hq).below ad).stored V)
 have aj:=ze (show ∀ q,zj (bts b)=some q->zV (World.rat w2 (w.heap.size+1) m F r l E G C z u D) _ q from fun q hq=>(ap q hq).stored V)
 have ae:=ze (ye (g:=w.heap.size+1) (x:=m) (A:=F) (k:=r) (c:=l) (s:=E) (y:=G) (B:=C) (k' :=z) (c' :=u) (t:=D) (ext ai.o ad) (by omega))
 have aw:=ze ao
 clear ao ap ad aq V al ab ac af ai
 simp only [World.rat] at j X ah aj ae
 go_wp2_with fail
 generalize (((((w2.setCell { block:=w.heap.size+1,off:=0 } (.int .i64 m)).setCell { block:=w.heap.size+1,off:=1 } (.slice F r l)).setCell { block:=w.heap.size+1,off:=2 } (.bool E)).setCell { block:=w.heap.size+1,off:=3 } (.int .i64 G)).setCell { block:=w.heap.size+1,off:=4 } (.slice C z u)).setCell { block:=w.heap.size+1,off:=5 } (.bool D)=W2 at j X ah aj ae |-
 clear a0 a1 a2 a3 a4 a5 f0 f1 f2 f3 f4 f5;have a0:=j.o.cell 0;have a1:=j.o.cell 1;have a2:=j.o.cell 2;have a3:=j.o.cell 3;have a4:=j.o.cell 4;have a5:=j.o.cell 5;obtain ⟨f0,f1,f2,f3,f4,f5⟩:=fq6 j;have d0:=X.o.cell 0;have d1:=X.o.cell 1;have d2:=X.o.cell 2;have d3:=X.o.cell 3;have d4:=X.o.cell 4;have d5:=X.o.cell 5;obtain ⟨g0,g1,g2,g3,g4,g5⟩:=fq6 X;simp at a0 a1 a2 a3 a4 a5 d0 d1 d2 d3 d4 d5
 cases b1 with
 | true=>
   have HR:=ze (show b2=((zj (bts a)).isSome && (zj (bts b)).isSome) by rw [<- ar.o, <- aw.o];rfl)
   go_region
   go_wp2;have ak:=yj (x:=S) (A:=I) (k:=T) (c:=M) (s:=R) (y:=L) (B:=K) (k' :=N) (c' :=U) (t:=Q) j.o;have aa:=VP (g' :=w.heap.size) (x:=S) (A:=I) (k:=T) (c:=M) (s:=R) (y:=L) (B:=K) (k' :=N) (c' :=U) (t:=Q) X.o (by omega);have O:=VP (g' :=w.heap.size+1) (x:=m) (A:=F) (k:=r) (c:=l) (s:=E) (y:=G) (B:=C) (k' :=z) (c' :=u) (t:=D) ak (by omega);have J:=yj (x:=m) (A:=F) (k:=r) (c:=l) (s:=E) (y:=G) (B:=C) (k' :=z) (c' :=u) (t:=D) aa;have Z:=O.cell 0;have e1:=O.cell 1;have e2:=O.cell 2;have e3:=O.cell 3;have e4:=O.cell 4;have e5:=O.cell 5;have h0:=J.cell 0;have h1:=J.cell 1;have h2:=J.cell 2;have h3:=J.cell 3;have h4:=J.cell 4;have h5:=J.cell 5;simp only [World.rat] at Z e1 e2 e3 e4 e5 h0 h1 h2 h3 h4 h5;simp at Z e1 e2 e3 e4 e5 h0 h1 h2 h3 h4 h5
   refine bodyPost_ret (v:=.tuple #[.agg #[.int .i64 S,.slice I T M,.bool R,.int .i64 L,.slice K N U,.bool Q],.agg #[.int .i64 m,.slice F r l,.bool E,.int .i64 G,.slice C z u,.bool D],.bool b2]) (by simp [results,results61,go_sem,Z,e1,e2,e3,e4,e5,h0,h1,h2,h3,h4,h5]) rfl ?_;have hd:=yD (World.rat (World.rat W2 w.heap.size S I T M R L K N U Q) (w.heap.size+1) m F r l E G C z u D) 1;exact ⟨_,_,_,rfl,⟨_,_,_,_,_,_,_,_,_,_,rfl⟩,⟨_,_,_,_,_,_,_,_,_,_,rfl⟩,HR.o,fun q hq=>(((ah.o q hq).stored j.o).stored aa).below hd,fun q hq=>(((aj.o q hq).stored j.o).stored aa).below hd,zo (ye (ye ae.o (uA)) (by omega)) 1⟩
 | false=>
   have HR:=ze (show false=((zj (bts a)).isSome && (zj (bts b)).isSome) by rw [<- ar.o];rfl)
   go_region
   go_wp2;have ak:=yj (x:=S) (A:=I) (k:=T) (c:=M) (s:=R) (y:=L) (B:=K) (k' :=N) (c' :=U) (t:=Q) j.o;have aa:=VP (g' :=w.heap.size) (x:=S) (A:=I) (k:=T) (c:=M) (s:=R) (y:=L) (B:=K) (k' :=N) (c' :=U) (t:=Q) X.o (by omega);have O:=VP (g' :=w.heap.size+1) (x:=m) (A:=F) (k:=r) (c:=l) (s:=E) (y:=G) (B:=C) (k' :=z) (c' :=u) (t:=D) ak (by omega);have J:=yj (x:=m) (A:=F) (k:=r) (c:=l) (s:=E) (y:=G) (B:=C) (k' :=z) (c' :=u) (t:=D) aa;have Z:=O.cell 0;have e1:=O.cell 1;have e2:=O.cell 2;have e3:=O.cell 3;have e4:=O.cell 4;have e5:=O.cell 5;have h0:=J.cell 0;have h1:=J.cell 1;have h2:=J.cell 2;have h3:=J.cell 3;have h4:=J.cell 4;have h5:=J.cell 5;simp only [World.rat] at Z e1 e2 e3 e4 e5 h0 h1 h2 h3 h4 h5;simp at Z e1 e2 e3 e4 e5 h0 h1 h2 h3 h4 h5
   refine bodyPost_ret (v:=.tuple #[.agg #[.int .i64 S,.slice I T M,.bool R,.int .i64 L,.slice K N U,.bool Q],.agg #[.int .i64 m,.slice F r l,.bool E,.int .i64 G,.slice C z u,.bool D],.bool false]) (by simp [results,results61,go_sem,Z,e1,e2,e3,e4,e5,h0,h1,h2,h3,h4,h5]) rfl ?_;have hd:=yD (World.rat (World.rat W2 w.heap.size S I T M R L K N U Q) (w.heap.size+1) m F r l E G C z u D) 1;exact ⟨_,_,_,rfl,⟨_,_,_,_,_,_,_,_,_,_,rfl⟩,⟨_,_,_,_,_,_,_,_,_,_,rfl⟩,HR.o,fun q hq=>(((ah.o q hq).stored j.o).stored aa).below hd,fun q hq=>(((aj.o q hq).stored j.o).stored aa).below hd,zo (ye (ye ae.o (uA)) (by omega)) 1⟩
end Go.Proofs.YtobdoblpnanclaaGreatDoor
namespace Go.Proofs.YtobdoblpnanclaaGreatDoor
open Proofs.Tryz Go.RowKit Go.Deep
def op2 (f:Rat->Rat->Rat) (la lb:List UInt8):List UInt8×Int:=match zj la,zj lb with
 | some x,some y=>Vl (f x y)
 | _,_=>([],4)
theorem zvn {f:Rat->Rat->Rat} {la lb:List UInt8} (h:((zj la).isSome && (zj lb).isSome)=false):op2 f la lb=([],4):=by
 unfold op2
 cases ha:zj la with
 | none=>rfl
 | some x=>
   cases hb:zj lb with
   | none=>rfl
   | some y=>rw [ha,hb] at h;cases h
theorem zrf {la lb:List UInt8} (h:((zj la).isSome && (zj lb).isSome)=true):∃ x y,zj la=some x/\zj lb=some y:=by
 cases ha:zj la with
 | none=>rw [ha] at h;cases h
 | some x=>
   cases hb:zj lb with
   | none=>rw [ha,hb] at h;cases h
   | some y=>exact ⟨x,y,rfl,rfl⟩
theorem zts {f:Rat->Rat->Rat} {la lb:List UInt8} {x y:Rat} (ha:zj la=some x) (hb:zj lb=some y):op2 f la lb=Vl (f x y):=by unfold op2;rw [ha,hb]
theorem zms {l:List UInt8} {q:Rat} (h:zj l=some q):xJ 50000 q:=(yA.1 h).2.len
theorem xJ.more {M K:Nat} {q:Rat} (h:xJ M q) (hM:M<=K):xJ K q:=⟨uC h.1 hM,uC h.2 hM⟩
theorem xJ.of_dz {e:Nat} {q:Rat} (h:Dz e q):xJ (e+1) q:=(Dz.short h (Nat.lt_succ_self e)).len
theorem zvu {l:List UInt8} {q:Rat} (h:zj l=some q):Dz 50000 q:=(yA.1 h).2.sz
theorem zmg (a b:ByteArray) (w:World) (ha:a.size<=1073741824) (hb:b.size<=1073741824):
 Calls prog 25 #[.string a,.string b,.func (.func 26) #[] #[]] w (zw0 w (op2 (· + ·) (bts a) (bts b))):=by
 have D:=fun w=>zt0 a b w ha hb
 go_in
 go_wp2_with fail
 refine (D _).mono ?_
 rintro e L ⟨v1,v2,bb,rfl,⟨x1,R,K,T,s1,N,B1,U,X,Y,rfl⟩,⟨x2,A2,k2,V,S,y2,B2,aa,O,M,rfl⟩,j,C,J,E⟩
 have l:=ext (zf L (.cells #[.int .i64 x1,.slice R K T,.bool s1,.int .i64 N,.slice B1 U X,.bool Y] 60)) (zf _ (.cells #[.int .i64 x2,.slice A2 k2 V,.bool S,.int .i64 y2,.slice B2 aa O,.bool M] 60))
 have ac:=ze (show ∀ q,zj (bts a)=some q->zV _ _ q from fun q hq=>(C q hq).below l)
 have ab:=ze (show ∀ q,zj (bts b)=some q->zV _ _ q from fun q hq=>(J q hq).below l)
 have G:=ze (ext E l)
 clear C J E l D
 cases bb with
 | false=>
   have m:=ze (zvn (f:=(· + ·)) j.symm);clear j;go_wp2;go_ret2;rw [m.o];exact ⟨rfl,G.o⟩
 | true=>
   obtain ⟨x,y,z,u⟩:=zrf j.symm;have m:=ze (zts (f:=(· + ·)) z u);have B:=ze z;have r:=ze u;clear j z u;go_wp2_with fail;refine (vM _ _ x y _ (ac.o x B.o) (ab.o y r.o) ((zms B.o).more (by omega)) ((zms r.o).more (by omega))).mono ?_;rintro e w2 ⟨v,rfl,hv,F⟩;have HL:=ze (show xJ 67108864 ((· + ·) x y) from (xJ.of_dz (e:=100001) (Dz.add (zvu B.o) (zvu r.o) (by omega))).more (by omega));have HV:=ze hv;have Z:=ze (ext G.o F);clear hv F;go_wp2_with fail;refine (zra v _ w2 HV.o HL.o).mono ?_;rintro e w3 ⟨rfl,I⟩;have Q:=ze I;clear I;go_wp2;go_ret2;rw [m.o];exact ⟨rfl,ext Z.o Q.o⟩
theorem ztl (a b:ByteArray) (w:World) (ha:a.size<=1073741824) (hb:b.size<=1073741824):
 Calls prog 11 #[.string a,.string b] w (zw0 w (op2 (· + ·) (bts a) (bts b))):=by
 have l:=fun w=>zmg a b w ha hb
 go_in
 go_wp2_with fail
 refine (l _).mono ?_
 rintro e r ⟨rfl,j⟩
 have m:=ze j
 clear j l
 go_wp2
 go_ret2
 exact ⟨rfl,m.o⟩
theorem zh3 (q:Rat):(XG q 0 == 0)=decide (q=0):=by
 unfold XG
 by_cases b:q<0
 . rw [if_pos b,uF (by grind)];rfl
 by_cases e:0<q
 . rw [if_neg b,if_pos e,uF (by grind)];rfl
 rw [if_neg b,if_neg e,uE (by grind)];rfl
end Go.Proofs.YtobdoblpnanclaaGreatDoor
