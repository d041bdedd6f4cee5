/- Parts of the proof. -/
import Derived.Test.YthbmhkiphmcogaaGreatDoorMe12
import Derived.Test.YthbmhkiphmcogaaGreatDoorMe13
set_option linter.all false
set_option maxRecDepth 100000
set_option maxHeartbeats 32000000
namespace Go.Proofs.YthbmhkiphmcogaaGreatDoor
open Proofs.Tryz Go.RowKit Go.Deep
attribute [local go_sem ↓] Go.wp_at_zero Go.wp_at_succ
theorem zd1 {z:Int} (h:len 4294967296 z.natAbs<=67108864):(xO z).length<=671088642:=by
 have:=Y3 h
 unfold xO
 split
 . rw [List.length_cons];omega
 omega
theorem zhe {q:Rat} (h:q.den=1):zw q=xO q.num:=by
 unfold zw xO
 rw [if_pos h]
 by_cases b:q.num<0
 . rw [if_pos b,if_pos b];simp
 rw [if_neg b,if_neg b];simp
theorem zh7 {q:Rat} (h:q.den≠1):zw q=xO q.num ++ 47 :: xO (q.den:Int):=by
 have hd:xO (q.den:Int)=dec q.den:=by unfold xO;rw [if_neg (by omega),Int.natAbs_natCast]
 rw [hd]
 unfold zw xO
 rw [if_neg h]
 by_cases b:q.num<0
 . rw [if_pos b,if_pos b];simp
 rw [if_neg b,if_neg b];simp
theorem zfn (a b:List UInt8):(⟨a.toArray⟩:ByteArray) ++ (⟨b.toArray⟩:ByteArray)=⟨(a ++ b).toArray⟩:=by
 apply ByteArray.ext
 rw [ByteArray.data_append]
 simp
theorem yb.one {w:World} {y d:Int} {B:Option Addr} {k c:Nat} {t:Bool} (h:yb w (.agg #[.int .i64 y,.slice B k c,.bool t]) d):d=1↔(B=none/\y=1):=by
 rcases h with ⟨x,ng,e,j,l,rfl⟩ | ⟨m,k',c',n,ng,e,j,l,rfl⟩
 . injection e with e
   have b:=congrArg (fun a=>a.toList) e;simp at b;obtain ⟨rfl,⟨rfl,rfl,rfl⟩,rfl⟩:=b
   simp
 . injection e with e
   have b:=congrArg (fun a=>a.toList) e;simp at b;obtain ⟨rfl,⟨rfl,rfl,rfl⟩,rfl⟩:=b
   constructor
   rotate_left
   . intro h;cases h.1
   intro h
   split at h<;>omega
theorem V4 (va:Value) (q:Rat) (w:World) (ha:yc w va q) (hl:Z9 67108864 q):
 Calls Tryz.prog 29 #[va] w (zkz w (zw q)):=by
 obtain ⟨m,r,k1,c1,s1,b,z,l,j,u,rfl,B,E⟩:=ha
 have D:=yb.one E
 have y:=ze (zf w (.cells #[.int .i64 m,.slice r k1 c1,.bool s1,.int .i64 b,.slice z l j,.bool u] 55))
 have K:=ze (B.below y.o)
 have R:=ze B
 have Q:=ze E
 have C:=ze hl.1
 have I:=ze hl.2
 have Z:=fun w=>znp w z l j 0 0
 by_cases hd:q.den=1
 . obtain ⟨rfl,rfl⟩:=D.1 (by omega)
   rw [zhe hd];clear D B E hd hl
   go_enter func29,ntmps29
   go_wp2_with fail;refine (zan _ q.num _ K.o C.o).mono ?_;rintro e w1 ⟨rfl,G⟩;go_wp2;go_ret;exact ⟨rfl,ext y.o G⟩
 have T:=zd1 C.o
 have S:=zd1 I.o;have O:=ze (zh7 hd);have N:¬ (z=none/\b=1):=fun h=>hd (by have:=D.2 h;omega)
 have Y:¬ 9223372036854775807<(xO q.num).length+1:=by omega
 have V:¬ 9223372036854775807<(xO q.num).length+1+(xO (q.den:Int)).length:=by omega
 clear D B E hd hl T S
 have J:z=none->((b:Int) == 1)=false:=by
  intro e;rw [beq_eq_false_iff_ne];exact fun h=>N ⟨e,h⟩
 clear N
 rcases z with _ | bd
 . have X:=J rfl
   clear J;have L:Hid (Below w.heap.size w ((w.alloc (.cells #[.int .i64 m,.slice r k1 c1,.bool s1,.int .i64 b,.slice none l j,.bool u] 55)).drew)):=ze (zo y.o 1);clear y K
   go_enter func29,ntmps29
   go_wp2_with fail
   go_region_held3 (fun w' =>w'.cell? ⟨w.heap.size,0,none⟩=some (.int .i64 m)/\w'.cell? ⟨w.heap.size,1,none⟩=some (.slice r k1 c1)/\w'.cell? ⟨w.heap.size,2,none⟩=some (.bool s1)/\w'.cell? ⟨w.heap.size,3,none⟩=some (.int .i64 b)/\w'.cell? ⟨w.heap.size,4,none⟩=some (.slice none l j)/\w'.cell? ⟨w.heap.size,5,none⟩=some (.bool u)/\w.heap.size<w'.heap.size/\Hid (Below w.heap.size w w'))
    (first
      | with_reducible exact ⟨by go_keep,by go_keep,by go_keep,by go_keep,by go_keep,by go_keep,by first | (simp;done) | (simp;omega),L⟩
      | (go_split_ands;with_reducible exact ⟨zj ‹_› ‹_› ‹_›,zj ‹_› ‹_› ‹_›,zj ‹_› ‹_› ‹_›,zj ‹_› ‹_› ‹_›,zj ‹_› ‹_› ‹_›,zj ‹_› ‹_› ‹_›,zG ‹_› ‹_›,zr ‹_› ‹_›⟩)
      | go_keep)
    (first
      | (go_at_call_of 68 (Value.agg #[.int .i64 m,.slice r k1 c1,.bool s1]);refine (zan _ q.num _ (R.o.below (zK (by go_split_ands;assumption))) C.o).mono ?_;rintro e w1 ⟨rfl,G⟩)
      | (go_at_call_of 68 (Value.agg #[.int .i64 b,.slice none l j,.bool u]);refine (zan _ (q.den:Int) _ (Q.o.below (zK (by go_split_ands;assumption))) I.o).mono ?_;rintro e M ⟨rfl,U⟩))
   all_goals
    go_split_ands;have F:=zK (by assumption:Hid (Below w.heap.size w M));go_wp2;go_ret;refine ⟨?_,F⟩;rw [O.o,show xO q.num ++ 47 :: xO (q.den:Int)=(xO q.num ++ [47]) ++ xO (q.den:Int) by simp, <- zfn, <- zfn]
    rfl
 . clear J
   have L:Hid (Below w.heap.size w ((w.alloc (.cells #[.int .i64 m,.slice r k1 c1,.bool s1,.int .i64 b,.slice (some bd) l j,.bool u] 55)).drew)):=ze (zo y.o 1);clear y K
   go_enter func29,ntmps29
   go_wp2_with fail
   go_region_held3 (fun w' =>w'.cell? ⟨w.heap.size,0,none⟩=some (.int .i64 m)/\w'.cell? ⟨w.heap.size,1,none⟩=some (.slice r k1 c1)/\w'.cell? ⟨w.heap.size,2,none⟩=some (.bool s1)/\w'.cell? ⟨w.heap.size,3,none⟩=some (.int .i64 b)/\w'.cell? ⟨w.heap.size,4,none⟩=some (.slice (some bd) l j)/\w'.cell? ⟨w.heap.size,5,none⟩=some (.bool u)/\w.heap.size<w'.heap.size/\Hid (Below w.heap.size w w'))
    (first
      | with_reducible exact ⟨by go_keep,by go_keep,by go_keep,by go_keep,by go_keep,by go_keep,by first | (simp;done) | (simp;omega),L⟩
      | (go_split_ands;with_reducible exact ⟨zj ‹_› ‹_› ‹_›,zj ‹_› ‹_› ‹_›,zj ‹_› ‹_› ‹_›,zj ‹_› ‹_› ‹_›,zj ‹_› ‹_› ‹_›,zj ‹_› ‹_› ‹_›,zG ‹_› ‹_›,zr ‹_› ‹_›⟩)
      | go_keep)
    (first
      | (go_at_call_of 68 (Value.agg #[.int .i64 m,.slice r k1 c1,.bool s1]);refine (zan _ q.num _ (R.o.below (zK (by go_split_ands;assumption))) C.o).mono ?_;rintro e w1 ⟨rfl,G⟩)
      | (go_at_call_of 68 (Value.agg #[.int .i64 b,.slice (some bd) l j,.bool u]);refine (zan _ (q.den:Int) _ (Q.o.below (zK (by go_split_ands;assumption))) I.o).mono ?_;rintro e M ⟨rfl,U⟩))
   all_goals
    go_split_ands;have F:=zK (by assumption:Hid (Below w.heap.size w M));go_wp2;go_ret;refine ⟨?_,F⟩;rw [O.o,show xO q.num ++ 47 :: xO (q.den:Int)=(xO q.num ++ [47]) ++ xO (q.den:Int) by simp, <- zfn, <- zfn]
    rfl
theorem zcj (M:Nat) (q:Rat):(!decide (yo M q))=(decide (M<(dec q.num.natAbs).length) || decide (M<(dec q.den).length)):=by
 by_cases b:(dec q.num.natAbs).length<=M
 rotate_left
 . rw [decide_eq_false (fun h:yo M q=>b h.1),decide_eq_true (show M<(dec q.num.natAbs).length by omega)];rfl
 by_cases e:(dec q.den).length<=M
 . rw [decide_eq_true (show yo M q from ⟨b,e⟩),decide_eq_false (by omega),decide_eq_false (by omega)];rfl
 rw [decide_eq_false (fun h:yo M q=>e h.2),decide_eq_true (show M<(dec q.den).length by omega),Bool.or_true];rfl
theorem yF.slice {w:World} {v:Value} {n:Nat} (h:yF w v n):∃ A c,v= .slice A (len 4294967296 n) c:=by
 obtain ⟨A',c',ds,e,r,m,l,b,j⟩:=h
 refine ⟨A',c',?_⟩
 rw [e, <- j,b.length_eq (by omega)]
theorem Vu {n M:Nat} (h:len 4294967296 n*10<=M) (hM:1<=M):(dec n).length<=M:=by
 by_cases b:n=0
 . subst b;rw [vO];simpa using hM
 rw [zew n b]
 have l:len 10 n<=10*len 4294967296 n:=by
  apply yv (by omega)
  have j:=vy (β:=4294967296) (by omega) n;have e:4294967296 ^ len 4294967296 n<=(10 ^ 10) ^ len 4294967296 n:=Nat.pow_le_pow_left (by omega) _;rw [<- Nat.pow_mul] at e;exact Nat.lt_of_lt_of_le j e
 omega
theorem zal (va:Value) (q:Rat) (M:Nat) (w:World) (ha:yc w va q) (hl:Z9 67108864 q) (h1M:1<=M) (hM2:M<=1000000):
 Calls Tryz.prog 43 #[va,.int .i64 M] w (zfq w (.bool (!decide (yo M q)))):=by
 obtain ⟨V,A1,k1,c1,s1,y1,Z,ad,ac,t1,rfl,aa,ae⟩:=ha
 have I:=zf w (.cells #[.int .i64 V,.slice A1 k1 c1,.bool s1,.int .i64 y1,.slice Z ad ac,.bool t1] 55)
 have HA:=ze (aa.below I)
 have HD:=ze (ae.below I)
 have HW:=ze I
 have E:=ze hl.1
 have r:=ze hl.2
 have kB:=Blk.new w 55 #[.int .i64 V,.slice A1 k1 c1,.bool s1,.int .i64 y1,.slice Z ad ac,.bool t1]
 have HK:=ze kB
 clear aa ae hl I kB
 go_enter func43,ntmps43
 go_wp2_with fail
 refine (ZB _ q.num _ HA.o).mono ?_
 rintro e w1 ⟨p,rfl,hp,J⟩
 have F:=HK.o.below J HK.o.lt
 have b3:=F.cell 3
 have X:=F.cell 4
 have b5:=F.cell 5
 simp at b3 X b5
 have HP:=ze hp
 have ab:=ze J
 clear hp J F
 go_wp2_with fail
 refine (ZB _ (q.den:Int) _ (HD.o.below ab.o)).mono ?_
 rintro e w2 ⟨p',rfl,K,R⟩
 obtain ⟨A2,c2,rfl⟩:=HP.o.slice
 obtain ⟨A3,c3,rfl⟩:=K.slice
 have Q:=ze (HP.o.below R)
 have U :=ze K
 have G:=ze (ext (ext HW.o ab.o) R)
 clear b3 X b5 K R
 have ag:len 4294967296 q.num.natAbs<=67108864:=E.o
 have al:len 4294967296 (q.den:Int).natAbs<=67108864:=r.o
 obtain ⟨a,D⟩:∃ a,a=len 4294967296 q.num.natAbs:=⟨_,rfl⟩
 obtain ⟨b,C⟩:∃ b,b=len 4294967296 (q.den:Int).natAbs:=⟨_,rfl⟩
 rw [<- D] at ag
 rw [<- C] at al
 rw [<- D] at Q
 rw [<- C] at U
 have af :=ze D
 have Y :=ze C
 rw [<- D, <- C]
 clear D C
 rcases (show a<=b\/b<a by omega) with aj | aj
 . by_cases hm:b*10<=M
   . have O:=ze (show yo M q from ⟨Vu (by rw [<- af.o];omega) h1M,by have:=Vu (n:=(q.den:Int).natAbs) (by rw [<- Y.o];omega) h1M;rwa [Int.natAbs_natCast] at this⟩)
     have l:=ze (show (!decide (yo M q))=false by rw [decide_eq_true O.o];rfl);go_wp2_with fail;go_ret;exact ⟨yd l.o,G.o⟩
   have ah :¬ (b:Int)*10<=(M:Int):=by omega
   have ai:=Y3 E.o;go_wp2_with fail;refine (YT _ _ _ Q.o E.o).mono ?_;rintro e w3 ⟨rfl,z⟩;have B:=ze (U.o.below z);have u:=ze (ext G.o z);clear z
   by_cases m:(dec q.num.natAbs).length<=M
   rotate_left
   . have l:=ze (show (!decide (yo M q))=true by rw [decide_eq_false (fun h=>m h.1)];rfl)
     have T:(M:Int)<((dec q.num.natAbs).length:Int):=by omega
     clear m;go_wp2_with fail;go_ret;exact ⟨yd l.o,u.o⟩
   have ak:=Y3 r.o
   have T:¬ (M:Int)<((dec q.num.natAbs).length:Int):=by omega
   have S:=ze m;clear m
   by_cases j:(dec (q.den:Int).natAbs).length<=M
   . have l:=ze (show (!decide (yo M q))=false by rw [decide_eq_true ⟨S.o,by rw [Int.natAbs_natCast] at j;exact j⟩];rfl)
     have L:¬ (M:Int)<((dec (q.den:Int).natAbs).length:Int):=by omega
     clear j;go_wp2_with fail;refine (YT _ _ _ B.o r.o).mono ?_;rintro e N ⟨rfl,y⟩;go_wp2_with fail;go_ret;exact ⟨yd (zcj M q),ext u.o y⟩
   have l:=ze (show (!decide (yo M q))=true by rw [decide_eq_false (fun h=>j (by rw [Int.natAbs_natCast];exact h.2))];rfl)
   have L:(M:Int)<((dec (q.den:Int).natAbs).length:Int):=by omega
   clear j;go_wp2_with fail;refine (YT _ _ _ B.o r.o).mono ?_;rintro e N ⟨rfl,y⟩;go_wp2_with fail;go_ret;exact ⟨yd (zcj M q),ext u.o y⟩
 . by_cases hm:a*10<=M
   . have O:=ze (show yo M q from ⟨Vu (by rw [<- af.o];omega) h1M,by have:=Vu (n:=(q.den:Int).natAbs) (by rw [<- Y.o];omega) h1M;rwa [Int.natAbs_natCast] at this⟩)
     have l:=ze (show (!decide (yo M q))=false by rw [decide_eq_true O.o];rfl);go_wp2_with fail;go_ret;exact ⟨yd l.o,G.o⟩
   have ah :¬ (a:Int)*10<=(M:Int):=by omega
   have ai:=Y3 E.o;go_wp2_with fail;refine (YT _ _ _ Q.o E.o).mono ?_;rintro e w3 ⟨rfl,z⟩;have B:=ze (U.o.below z);have u:=ze (ext G.o z);clear z
   by_cases m:(dec q.num.natAbs).length<=M
   rotate_left
   . have l:=ze (show (!decide (yo M q))=true by rw [decide_eq_false (fun h=>m h.1)];rfl)
     have T:(M:Int)<((dec q.num.natAbs).length:Int):=by omega
     clear m;go_wp2_with fail;go_ret;exact ⟨yd l.o,u.o⟩
   have ak:=Y3 r.o
   have T:¬ (M:Int)<((dec q.num.natAbs).length:Int):=by omega
   have S:=ze m;clear m
   by_cases j:(dec (q.den:Int).natAbs).length<=M
   . have l:=ze (show (!decide (yo M q))=false by rw [decide_eq_true ⟨S.o,by rw [Int.natAbs_natCast] at j;exact j⟩];rfl)
     have L:¬ (M:Int)<((dec (q.den:Int).natAbs).length:Int):=by omega
     clear j;go_wp2_with fail;refine (YT _ _ _ B.o r.o).mono ?_;rintro e N ⟨rfl,y⟩;go_wp2_with fail;go_ret;exact ⟨yd (zcj M q),ext u.o y⟩
   have l:=ze (show (!decide (yo M q))=true by rw [decide_eq_false (fun h=>j (by rw [Int.natAbs_natCast];exact h.2))];rfl)
   have L:(M:Int)<((dec (q.den:Int).natAbs).length:Int):=by omega
   clear j;go_wp2_with fail;refine (YT _ _ _ B.o r.o).mono ?_;rintro e N ⟨rfl,y⟩;go_wp2_with fail;go_ret;exact ⟨yd (zcj M q),ext u.o y⟩
def zaq (q:Rat):List UInt8×Int:=if yo 50000 q then (zw q,0) else ([],3)
def zye (w:World) (r:List UInt8×Int) (e:Ending) (w' :World):Prop:=e= .returned (.tuple #[str r.1,.int .i64 r.2])/\Below w.heap.size w w'
theorem zrm (va:Value) (q:Rat) (w:World) (ha:yc w va q) (hl:Z9 67108864 q):
 Calls Tryz.prog 53 #[va] w (zye w (zaq q)):=by
 obtain ⟨D,I,k1,c1,s1,O,F,L,J,Q,rfl,G,N⟩:=ha
 have z:=zf w (.cells #[.int .i64 D,.slice I k1 c1,.bool s1,.int .i64 O,.slice F L J,.bool Q] 55)
 have C:=ze (show yc _ _ q from ⟨_,_,_,_,_,_,_,_,_,_,rfl,G.below z,N.below z⟩)
 have E:=ze z
 have B:=ze hl
 have M:=Blk.new w 55 #[.int .i64 D,.slice I k1 c1,.bool s1,.int .i64 O,.slice F L J,.bool Q]
 have R:=ze M
 clear G N hl z M
 have u:=fun v w h hl=>zal v q 50000 w h hl (by omega) (by omega)
 by_cases l:yo 50000 q
 . have r:(!decide (yo 50000 q))=false:=by rw [decide_eq_true l];rfl
   have m:zaq q=(zw q,0):=by unfold zaq;rw [if_pos l]
   rw [r] at u;rw [m];clear r m l
   go_enter func53,ntmps53
   go_wp2_with fail;refine (u _ _ C.o B.o).mono ?_;rintro e w1 ⟨rfl,j⟩;have b:=R.o.below j R.o.lt;have V:=b.cell 0;have b1:=b.cell 1;have b2:=b.cell 2;have T:=b.cell 3;have S:=b.cell 4;have X:=b.cell 5;simp at V b1 b2 T S X;have y:=ze j;clear j b;go_wp2_with fail;refine (V4 _ q w1 (C.o.below y.o) B.o).mono ?_;rintro e Y ⟨rfl,K⟩;have U:=ze K;clear K;go_wp2_with fail;go_ret2;exact ⟨rfl,ext (ext E.o y.o) U.o⟩
 have r:(!decide (yo 50000 q))=true:=by rw [decide_eq_false l];rfl
 have m:zaq q=([],3):=by unfold zaq;rw [if_neg l]
 rw [r] at u;rw [m];clear r m l
 go_enter func53,ntmps53
 go_wp2_with fail;refine (u _ _ C.o B.o).mono ?_;rintro e w1 ⟨rfl,j⟩;have y:=ze j;clear j;go_wp2_with fail;go_ret2;exact ⟨rfl,ext E.o y.o⟩
theorem zbh {w w' :World} {v:Value} {z:Int} (hb:Below w.heap.size w w') (h:Hid (yb w v z)):Hid (yb w' v z):=h.out.below hb
theorem ZX {w:World} {g:Nat} {v:Value} {z x y:Int} {A B:Option Addr} {k c k' c' :Nat} {s t:Bool} (b:Hid (XN w g)) (h:Hid (yb w v z)):Hid (yb (World.rat w g x A k c s y B k' c' t) v z):=by
 obtain ⟨x,A,k,c,s,y,B,k',c',t,b⟩:=b.out
 exact yz h.out b
def zvv (v:Value):Prop:=∃ (x:Int) (A:Option Addr) (k c:Nat) (s:Bool) (y:Int) (B:Option Addr) (k' c' :Nat) (t:Bool),v= .agg #[.int .i64 x,.slice A k c,.bool s,.int .i64 y,.slice B k' c',.bool t]
def vD (w:World) (l:List UInt8) (e:Ending) (w' :World):Prop:=
 ∃ v b,e= .returned (.tuple #[v,.bool b])/\zvv v/\b=(zp l).isSome/\(∀ q,zp l=some q->yc w' v q)/\Below w.heap.size w w'
theorem vD.no {w w' :World} {l:List UInt8} {v:Value} (h:zp l=none) (hv:zvv v) (hb:Below w.heap.size w w'):vD w l (.returned (.tuple #[v,.bool false])) w' :=
 ⟨v,false,rfl,hv,by rw [h];rfl,fun q hq=>(by rw [h] at hq;cases hq),hb⟩
theorem vD.yes {w w' :World} {l:List UInt8} {v:Value} {q:Rat} (h:zp l=some q) (hv:yc w' v q) (hb:Below w.heap.size w w'):vD w l (.returned (.tuple #[v,.bool true])) w' :=by
 refine ⟨v,true,rfl,?_,(by rw [h];rfl),fun q' hq=>?_,hb⟩
 rotate_left
 . rw [h] at hq;injection hq with hq;rw [<- hq];exact hv
 obtain ⟨x,A,k,c,s,y,B,k',c',t,rfl,_,_⟩:=hv
 exact ⟨x,A,k,c,s,y,B,k',c',t,rfl⟩
theorem vD.maybe {w w' :World} {l:List UInt8} {v:Value} {q:Rat} {d:Nat} (h:zp l=if q.den=d then some q else none) (hv:yc w' v q) (hb:Below w.heap.size w w'):
 vD w l (.returned (.tuple #[v,.bool (zP (q.den:Int) (signed false d) == 0)])) w' :=by
 have e:(zP (q.den:Int) (signed false d) == 0)=decide (q.den=d):=by
  unfold zP signed
  simp only [Bool.false_eq_true,if_false]
  rcases Nat.lt_trichotomy q.den d with b | b | b
  . rw [if_pos (by omega),decide_eq_false (by omega)];rfl
  . rw [if_neg (by omega),if_neg (by omega),decide_eq_true b];rfl
  . rw [if_neg (by omega),if_pos (by omega),decide_eq_false (by omega)];rfl
 rw [e]
 by_cases hd:q.den=d
 . rw [decide_eq_true hd]
   rw [if_pos hd] at h;exact vD.yes h hv hb
 rw [decide_eq_false hd]
 rw [if_neg hd] at h;obtain ⟨x,A,k,c,s,y,B,k',c',t,rfl,_,_⟩:=hv;exact vD.no h ⟨x,A,k,c,s,y,B,k',c',t,rfl⟩ hb
theorem zbc (a:ByteArray) (c:UInt8):(a.toList == [c])=decide (bts a=[c]):=by
 rw [Lib.toList_data]
 unfold bts
 rw [Bool.eq_iff_iff,beq_iff_eq,decide_eq_true_iff]
theorem zkh (w:World):yb w (.agg #[.int .i64 1,.slice none 0 0,.bool false]) 1:=.inl ⟨1,false,rfl,by omega,by omega,rfl⟩
theorem YR (s:Bool) (n d:Nat):Rat.divInt (signed s n) (signed false d)=vj s n d:=by
 unfold vj signed
 cases s<;>simp
theorem vW {s:Bool} {n M:Nat} (h:len 4294967296 n<=M):len 4294967296 (signed s n).natAbs<=M:=by
 unfold signed
 cases s<;>simpa using h
theorem Vp (s:ByteArray) (w:World) (hs:s.size<=1073741824):
 Calls Tryz.prog 71 #[.string s] w (vD w (bts s)):=by
 have bs:=fun w=>zfk s w hs
 have J:=Blk.new w 55 #[.int .i64 0,.slice none 0 0,.bool false,.int .i64 0,.slice none 0 0,.bool false]
 have bu:=zf w (.cells #[.int .i64 0,.slice none 0 0,.bool false,.int .i64 0,.slice none 0 0,.bool false] 55)
 go_enter func71,ntmps71
 go_wp2_with fail
 refine (bs _).mono ?_
 rintro e w1 ⟨u,rfl,hu,rfl⟩
 have bq:u.size<=1073741824:=by
  rw [<- zm,hu]
  unfold zq
  have:=zm s
  split
  . rw [List.length_tail];omega
  omega
 have bo:=fun w=>zt1 u 47 w bq
 obtain ⟨neg,a6⟩:∃ neg,neg=yO (bts s):=⟨_,rfl⟩
 rw [<- a6]
 have HU:=ze hu
 have HN:=ze a6
 clear bs hu a6
 go_wp2_with fail
 refine (bo _).mono ?_
 rintro e w1 ⟨a,b,rfl,ha,hb,n1,rfl⟩
 rw [HU.o] at ha hb |-
 obtain ⟨aX,bk⟩:∃ aX,aX=has 47 (zq (bts s)):=⟨_,rfl⟩
 rw [<- bk] at hb |-
 have bp:a.size<=1073741824:=by
  have h1:(ahead 47 (zq (bts s))).length<=(zq (bts s)).length:=(List.takeWhile_sublist _).length_le
  rw [<- ha, <- HU.o,zm,zm] at h1
  omega
 have br:b.size<=1073741824:=by
  rw [<- zm,hb]
  split
  rotate_left
  . simp
  have h1:(yt 47 (zq (bts s))).length<=(zq (bts s)).length:=by
   unfold yt;rw [List.length_tail];have:=(List.dropWhile_sublist (fun x=>x != (47:UInt8)) (l:=zq (bts s))).length_le
   omega
  rw [<- HU.o,zm] at h1;rw [HU.o] at h1
  omega
 have aS:=fun w=>zg7 a w bp
 have M:=fun w=>zg7 b w br
 have za:=zbc a 48
 have N:=zbc b 48
 have zc:=zbc b 49
 rw [ha] at aS za
 have HA:=ze ha
 have HB:=ze hb
 have HI:=ze bk
 have HS:=ze hs
 have aj:=J.drewN n1
 have a9:=zo bu n1
 clear bo ha hb bk bq bp br hs J bu
 generalize (w.alloc (.cells #[.int .i64 0,.slice none 0 0,.bool false,.int .i64 0,.slice none 0 0,.bool false] 55)).drewN n1=w1 at aj a9 |-
 have lR:=aj.lt
 have r0:=aj.cell 0
 have r1:=aj.cell 1
 have r2:=aj.cell 2
 have r3:=aj.cell 3
 have r4:=aj.cell 4
 have r5:=aj.cell 5
 have f0:=aj.frozen 0
 have f1:=aj.frozen 1
 have f2:=aj.frozen 2
 have f3:=aj.frozen 3
 have f4:=aj.frozen 4
 have f5:=aj.frozen 5
 simp at r0 r1 r2 r3 r4 r5
 have ab:=ze aj
 have ah:=ze a9
 clear aj a9
 cases hpl:yk (ahead 47 (zq (bts s))) with
 | false=>
   have G:=ze (zrr hpl);rw [hpl] at aS;clear hpl za N zc M;go_wp2_with fail;refine (aS _).mono ?_;rintro e X ⟨rfl,rfl⟩;go_wp2_with fail;have j:=yx (x:=0) (A:=none) (k:=0) (c:=0) (s:=false) (y:=0) (B:=none) (k' :=0) (c' :=0) (t:=false) ab.o;have r:=j.cell 0;have z:=j.cell 1;have C:=j.cell 2;have E:=j.cell 3;have m:=j.cell 4;have D:=j.cell 5;simp only [World.rat] at r z C E m D;simp at r z C E m D;refine bodyPost_ret (v:=.tuple #[.agg #[.int .i64 0,.slice none 0 0,.bool false,.int .i64 0,.slice none 0 0,.bool false],.bool false]) (by simp [results,results71,go_sem,r,z,C,E,m,D]) rfl ?_;exact vD.no G.o ⟨_,_,_,_,_,_,_,_,_,_,rfl⟩ (yu (x:=0) (A:=none) (k:=0) (c:=0) (s:=false) (y:=0) (B:=none) (k' :=0) (c' :=0) (t:=false) ah.o (Nat.le_refl _))
 | true=>
   have ao:=ze hpl;rw [hpl] at aS;clear hpl;go_wp2_with fail;refine (aS _).mono ?_;rintro e X ⟨rfl,rfl⟩;clear aS
   cases neg with
   | false=>
     cases za1:(a.toList == [48]) with
     | true=>
       cases aX with
       | false=>
         have G:=ze (zbw ao.o (fun h=>by rw [<- HN.o] at h;cases h) HI.o.symm);have HC:=ze (YK ao.o);rw [<- HN.o] at G;have aA:=ze (show a.size<=50000 by rw [<- zm,HA.o];exact HC.o.2);clear za N zc M;go_wp2_with fail;refine (YF a _ (by rw [HA.o];exact HC.o.1) aA.o).mono ?_;rintro e X ⟨v,rfl,hv,af⟩;rw [HA.o] at hv;have HV:=ze hv;have K:=ze (ab.o.below af lR);have ax:=ze (ext ah.o af);clear hv af r0 r1 r2 r3 r4 r5 f0 f1 f2 f3 f4 f5;go_wp2_with fail;refine (ym false v _ X HV.o).mono ?_;rintro e w3 ⟨v3,rfl,ag,L⟩;obtain ⟨x',A',k',c',ac,rfl,_,_,_⟩:=ag.form;have I:=zf w3 (.cells #[.int .i64 x',.slice A' k' c',.bool ac] 53);have am:=ze (ag.below I);have F:=(K.o.below L K.o.lt).below I (K.o.below L K.o.lt).lt;have an:=ze (ext (ext ax.o L) I);have ai:=ze F;have r0:=F.cell 0;have r1:=F.cell 1;have r2:=F.cell 2;have r3:=F.cell 3;have r4:=F.cell 4;have r5:=F.cell 5;have f0:=F.frozen 0;have f1:=F.frozen 1;have f2:=F.frozen 2;have f3:=F.frozen 3;have f4:=F.frozen 4
         have f5:=F.frozen 5;simp at r0 r1 r2 r3 r4 r5;have kX:=Blk.new w3 53 #[.int .i64 x',.slice A' k' c',.bool ac];have g0:=kX.cell 0;have g1:=kX.cell 1;have g2:=kX.cell 2;simp at g0 g1 g2;clear L ag I F kX lR;go_wp2_with fail;have ad:=yx (x:=x') (A:=A') (k:=k') (c:=c') (s:=ac) (y:=1) (B:=none) (k' :=0) (c' :=0) (t:=false) ai.o;have r:=ad.cell 0;have z:=ad.cell 1;have C:=ad.cell 2;have E:=ad.cell 3;have m:=ad.cell 4;have D:=ad.cell 5;simp only [World.rat] at r z C E m D;simp at r z C E m D;refine bodyPost_ret (v:=.tuple #[.agg #[.int .i64 x',.slice A' k' c',.bool ac,.int .i64 1,.slice none 0 0,.bool false],.bool true]) (by simp [results,results71,go_sem,r,z,C,E,m,D]) rfl ?_;refine vD.yes G.o ⟨_,_,_,_,_,_,_,_,_,_,rfl,?_,?_⟩ (yu an.o (Nat.le_refl _))
         . rw [(Xs _ _).1]
           exact yz am.o ai.o
         rw [(Xs _ _).2]
         exact zkh _
       | true=>
         cases hpb2:yk (bts b) with
         | false=>
           have G:=ze (Ya HI.o.symm (.inl (by have:=HB.o;rw [if_pos rfl] at this;rw [<- this];exact hpb2)));rw [hpb2] at M;clear hpb2 za N zc;go_wp2_with fail;refine (M _).mono ?_;rintro e X ⟨rfl,rfl⟩;go_wp2_with fail;have j:=yx (x:=0) (A:=none) (k:=0) (c:=0) (s:=false) (y:=0) (B:=none) (k' :=0) (c' :=0) (t:=false) ab.o;have r:=j.cell 0;have z:=j.cell 1;have C:=j.cell 2;have E:=j.cell 3;have m:=j.cell 4;have D:=j.cell 5;simp only [World.rat] at r z C E m D;simp at r z C E m D;refine bodyPost_ret (v:=.tuple #[.agg #[.int .i64 0,.slice none 0 0,.bool false,.int .i64 0,.slice none 0 0,.bool false],.bool false]) (by simp [results,results71,go_sem,r,z,C,E,m,D]) rfl ?_;exact vD.no G.o ⟨_,_,_,_,_,_,_,_,_,_,rfl⟩ (yu (x:=0) (A:=none) (k:=0) (c:=0) (s:=false) (y:=0) (B:=none) (k' :=0) (c' :=0) (t:=false) ah.o (Nat.le_refl _))
         | true=>
           have az:=ze hpb2;rw [hpb2] at M;clear hpb2
           cases zb1:(b.toList == [48]) with
           | true=>
             have G:=ze (Ya HI.o.symm (.inr (.inl (by have:=HB.o;rw [if_pos rfl] at this;rw [<- this];exact of_decide_eq_true (N.symm.trans zb1)))));clear za N zc;go_wp2_with fail;refine (M _).mono ?_;rintro e X ⟨rfl,rfl⟩;go_wp2_with fail;have j:=yx (x:=0) (A:=none) (k:=0) (c:=0) (s:=false) (y:=0) (B:=none) (k' :=0) (c' :=0) (t:=false) ab.o;have r:=j.cell 0;have z:=j.cell 1;have C:=j.cell 2;have E:=j.cell 3;have m:=j.cell 4;have D:=j.cell 5;simp only [World.rat] at r z C E m D;simp at r z C E m D;refine bodyPost_ret (v:=.tuple #[.agg #[.int .i64 0,.slice none 0 0,.bool false,.int .i64 0,.slice none 0 0,.bool false],.bool false]) (by simp [results,results71,go_sem,r,z,C,E,m,D]) rfl ?_;exact vD.no G.o ⟨_,_,_,_,_,_,_,_,_,_,rfl⟩ (yu (x:=0) (A:=none) (k:=0) (c:=0) (s:=false) (y:=0) (B:=none) (k' :=0) (c' :=0) (t:=false) ah.o (Nat.le_refl _))
           | false=>
             cases zc1:(b.toList == [49]) with
             | true=>
               have G:=ze (Ya HI.o.symm (.inr (.inr (.inl (by have:=HB.o;rw [if_pos rfl] at this;rw [<- this];exact of_decide_eq_true (zc.symm.trans zc1))))));clear za N zc;go_wp2_with fail;refine (M _).mono ?_;rintro e X ⟨rfl,rfl⟩;go_wp2_with fail;have j:=yx (x:=0) (A:=none) (k:=0) (c:=0) (s:=false) (y:=0) (B:=none) (k' :=0) (c' :=0) (t:=false) ab.o;have r:=j.cell 0;have z:=j.cell 1;have C:=j.cell 2;have E:=j.cell 3;have m:=j.cell 4;have D:=j.cell 5;simp only [World.rat] at r z C E m D;simp at r z C E m D;refine bodyPost_ret (v:=.tuple #[.agg #[.int .i64 0,.slice none 0 0,.bool false,.int .i64 0,.slice none 0 0,.bool false],.bool false]) (by simp [results,results71,go_sem,r,z,C,E,m,D]) rfl ?_;exact vD.no G.o ⟨_,_,_,_,_,_,_,_,_,_,rfl⟩ (yu (x:=0) (A:=none) (k:=0) (c:=0) (s:=false) (y:=0) (B:=none) (k' :=0) (c' :=0) (t:=false) ah.o (Nat.le_refl _))
             | false=>
               have G:=ze (Ya HI.o.symm (.inr (.inr (.inr (of_decide_eq_true (by rw [<- za];exact za1))))));clear za N zc;go_wp2_with fail;refine (M _).mono ?_;rintro e X ⟨rfl,rfl⟩;go_wp2_with fail;have j:=yx (x:=0) (A:=none) (k:=0) (c:=0) (s:=false) (y:=0) (B:=none) (k' :=0) (c' :=0) (t:=false) ab.o;have r:=j.cell 0;have z:=j.cell 1;have C:=j.cell 2;have E:=j.cell 3;have m:=j.cell 4;have D:=j.cell 5;simp only [World.rat] at r z C E m D;simp at r z C E m D;refine bodyPost_ret (v:=.tuple #[.agg #[.int .i64 0,.slice none 0 0,.bool false,.int .i64 0,.slice none 0 0,.bool false],.bool false]) (by simp [results,results71,go_sem,r,z,C,E,m,D]) rfl ?_;exact vD.no G.o ⟨_,_,_,_,_,_,_,_,_,_,rfl⟩ (yu (x:=0) (A:=none) (k:=0) (c:=0) (s:=false) (y:=0) (B:=none) (k' :=0) (c' :=0) (t:=false) ah.o (Nat.le_refl _))
     | false=>
       cases aX with
       | false=>
         have G:=ze (zbw ao.o (fun h=>by rw [<- HN.o] at h;cases h) HI.o.symm);have HC:=ze (YK ao.o);rw [<- HN.o] at G;have aA:=ze (show a.size<=50000 by rw [<- zm,HA.o];exact HC.o.2);clear za N zc M;go_wp2_with fail;refine (YF a _ (by rw [HA.o];exact HC.o.1) aA.o).mono ?_;rintro e X ⟨v,rfl,hv,af⟩;rw [HA.o] at hv;have HV:=ze hv;have K:=ze (ab.o.below af lR);have ax:=ze (ext ah.o af);clear hv af r0 r1 r2 r3 r4 r5 f0 f1 f2 f3 f4 f5;go_wp2_with fail;refine (ym false v _ X HV.o).mono ?_;rintro e w3 ⟨v3,rfl,ag,L⟩;obtain ⟨x',A',k',c',ac,rfl,_,_,_⟩:=ag.form;have I:=zf w3 (.cells #[.int .i64 x',.slice A' k' c',.bool ac] 53);have am:=ze (ag.below I);have F:=(K.o.below L K.o.lt).below I (K.o.below L K.o.lt).lt;have an:=ze (ext (ext ax.o L) I);have ai:=ze F;have r0:=F.cell 0;have r1:=F.cell 1;have r2:=F.cell 2;have r3:=F.cell 3;have r4:=F.cell 4;have r5:=F.cell 5;have f0:=F.frozen 0;have f1:=F.frozen 1;have f2:=F.frozen 2;have f3:=F.frozen 3;have f4:=F.frozen 4
         have f5:=F.frozen 5;simp at r0 r1 r2 r3 r4 r5;have kX:=Blk.new w3 53 #[.int .i64 x',.slice A' k' c',.bool ac];have g0:=kX.cell 0;have g1:=kX.cell 1;have g2:=kX.cell 2;simp at g0 g1 g2;clear L ag I F kX lR;go_wp2_with fail;have ad:=yx (x:=x') (A:=A') (k:=k') (c:=c') (s:=ac) (y:=1) (B:=none) (k' :=0) (c' :=0) (t:=false) ai.o;have r:=ad.cell 0;have z:=ad.cell 1;have C:=ad.cell 2;have E:=ad.cell 3;have m:=ad.cell 4;have D:=ad.cell 5;simp only [World.rat] at r z C E m D;simp at r z C E m D;refine bodyPost_ret (v:=.tuple #[.agg #[.int .i64 x',.slice A' k' c',.bool ac,.int .i64 1,.slice none 0 0,.bool false],.bool true]) (by simp [results,results71,go_sem,r,z,C,E,m,D]) rfl ?_;refine vD.yes G.o ⟨_,_,_,_,_,_,_,_,_,_,rfl,?_,?_⟩ (yu an.o (Nat.le_refl _))
         . rw [(Xs _ _).1]
           exact yz am.o ai.o
         rw [(Xs _ _).2]
         exact zkh _
       | true=>
         cases hpb2:yk (bts b) with
         | false=>
           have G:=ze (Ya HI.o.symm (.inl (by have:=HB.o;rw [if_pos rfl] at this;rw [<- this];exact hpb2)));rw [hpb2] at M;clear hpb2 za N zc;go_wp2_with fail;refine (M _).mono ?_;rintro e X ⟨rfl,rfl⟩;go_wp2_with fail;have j:=yx (x:=0) (A:=none) (k:=0) (c:=0) (s:=false) (y:=0) (B:=none) (k' :=0) (c' :=0) (t:=false) ab.o;have r:=j.cell 0;have z:=j.cell 1;have C:=j.cell 2;have E:=j.cell 3;have m:=j.cell 4;have D:=j.cell 5;simp only [World.rat] at r z C E m D;simp at r z C E m D;refine bodyPost_ret (v:=.tuple #[.agg #[.int .i64 0,.slice none 0 0,.bool false,.int .i64 0,.slice none 0 0,.bool false],.bool false]) (by simp [results,results71,go_sem,r,z,C,E,m,D]) rfl ?_;exact vD.no G.o ⟨_,_,_,_,_,_,_,_,_,_,rfl⟩ (yu (x:=0) (A:=none) (k:=0) (c:=0) (s:=false) (y:=0) (B:=none) (k' :=0) (c' :=0) (t:=false) ah.o (Nat.le_refl _))
         | true=>
           have az:=ze hpb2;rw [hpb2] at M;clear hpb2
           cases zb1:(b.toList == [48]) with
           | true=>
             have G:=ze (Ya HI.o.symm (.inr (.inl (by have:=HB.o;rw [if_pos rfl] at this;rw [<- this];exact of_decide_eq_true (N.symm.trans zb1)))));clear za N zc;go_wp2_with fail;refine (M _).mono ?_;rintro e X ⟨rfl,rfl⟩;go_wp2_with fail;have j:=yx (x:=0) (A:=none) (k:=0) (c:=0) (s:=false) (y:=0) (B:=none) (k' :=0) (c' :=0) (t:=false) ab.o;have r:=j.cell 0;have z:=j.cell 1;have C:=j.cell 2;have E:=j.cell 3;have m:=j.cell 4;have D:=j.cell 5;simp only [World.rat] at r z C E m D;simp at r z C E m D;refine bodyPost_ret (v:=.tuple #[.agg #[.int .i64 0,.slice none 0 0,.bool false,.int .i64 0,.slice none 0 0,.bool false],.bool false]) (by simp [results,results71,go_sem,r,z,C,E,m,D]) rfl ?_;exact vD.no G.o ⟨_,_,_,_,_,_,_,_,_,_,rfl⟩ (yu (x:=0) (A:=none) (k:=0) (c:=0) (s:=false) (y:=0) (B:=none) (k' :=0) (c' :=0) (t:=false) ah.o (Nat.le_refl _))
           | false=>
             cases zc1:(b.toList == [49]) with
             | true=>
               have G:=ze (Ya HI.o.symm (.inr (.inr (.inl (by have:=HB.o;rw [if_pos rfl] at this;rw [<- this];exact of_decide_eq_true (zc.symm.trans zc1))))));clear za N zc;go_wp2_with fail;refine (M _).mono ?_;rintro e X ⟨rfl,rfl⟩;go_wp2_with fail;have j:=yx (x:=0) (A:=none) (k:=0) (c:=0) (s:=false) (y:=0) (B:=none) (k' :=0) (c' :=0) (t:=false) ab.o;have r:=j.cell 0;have z:=j.cell 1;have C:=j.cell 2;have E:=j.cell 3;have m:=j.cell 4;have D:=j.cell 5;simp only [World.rat] at r z C E m D;simp at r z C E m D;refine bodyPost_ret (v:=.tuple #[.agg #[.int .i64 0,.slice none 0 0,.bool false,.int .i64 0,.slice none 0 0,.bool false],.bool false]) (by simp [results,results71,go_sem,r,z,C,E,m,D]) rfl ?_;exact vD.no G.o ⟨_,_,_,_,_,_,_,_,_,_,rfl⟩ (yu (x:=0) (A:=none) (k:=0) (c:=0) (s:=false) (y:=0) (B:=none) (k' :=0) (c' :=0) (t:=false) ah.o (Nat.le_refl _))
             | false=>
               have ak:=ze (show bts b=yt 47 (zq (bts s)) by rw [HB.o];rfl);have HD:=ze (YK az.o);have G:=ze (zir ao.o (fun h=>by rw [<- HN.o] at h;cases h) HI.o.symm (by rw [<- ak.o];exact az.o) (fun h=>by have:=N.symm.trans zb1;rw [decide_eq_true (ak.o.trans h)] at this;cases this) (fun h=>by have:=zc.symm.trans zc1;rw [decide_eq_true (ak.o.trans h)] at this;cases this));have aN:=ze (za2 (l:=yt 47 (zq (bts s))) (by rw [<- ak.o];exact az.o) (fun h=>by have:=N.symm.trans zb1;rw [decide_eq_true (ak.o.trans h)] at this;cases this));have ar:=ze (za3 (l:=yt 47 (zq (bts s))) (by rw [<- ak.o];exact az.o));have a0:=ze (za3 ao.o);have HC:=ze (YK ao.o);rw [<- HN.o] at G;have aA:=ze (show a.size<=50000 by rw [<- zm,HA.o];exact HC.o.2);have bd:=ze (show b.size<=50000 by rw [<- zm];exact HD.o.2);clear za N zc;go_wp2_with fail;refine (M _).mono ?_;rintro e X ⟨rfl,rfl⟩;clear M;obtain ⟨dn,aC⟩:∃ dn,dn=zH (yt 47 (zq (bts s))):=⟨_,rfl⟩;obtain ⟨nn,aE⟩:∃ nn,nn=zH (ahead 47 (zq (bts s))):=⟨_,rfl⟩;rw [<- aC, <- aE] at G
               rw [<- aC] at aN ar;rw [<- aE] at a0;have a1:=ze aC;have bl:=ze aE;clear aC aE;go_wp2_with fail;refine (YF a _ (by rw [HA.o];exact HC.o.1) aA.o).mono ?_;rintro e X ⟨v,rfl,hv,af⟩;rw [HA.o, <- bl.o] at hv;have HV:=ze hv;have K:=ze (ab.o.below af lR);have ax:=ze (ext ah.o af);clear hv af r0 r1 r2 r3 r4 r5 f0 f1 f2 f3 f4 f5;go_wp2_with fail;refine (ym false v _ X HV.o).mono ?_;rintro e w3 ⟨v3,rfl,ag,L⟩;obtain ⟨x',A',k',c',ac,rfl,_,_,_⟩:=ag.form;have I:=zf w3 (.cells #[.int .i64 x',.slice A' k' c',.bool ac] 53);have am:=ze (ag.below I);have F:=(K.o.below L K.o.lt).below I (K.o.below L K.o.lt).lt;have an:=ze (ext (ext ax.o L) I);have ai:=ze F;have kX:=Blk.new w3 53 #[.int .i64 x',.slice A' k' c',.bool ac];have aq:=ze kX;have bf:w.heap.size<w3.heap.size:=(K.o.below L K.o.lt).lt;clear L ag I F kX lR;go_wp2_with fail;generalize bm:w3.heap.size=gx at aq bf |-;generalize w3.alloc (.cells #[.int .i64 x',.slice A' k' c',.bool ac] 53)=W3 at am ai an aq |-
               clear bm;refine (YF b _ HD.o.1 bd.o).mono ?_;rintro e w4 ⟨v4,rfl,aI,I⟩;rw [ak.o, <- a1.o] at aI;have a8:=ze aI;have aY:=ze (am.o.below I);have av:=ze (ai.o.below I ai.o.lt);have aJ:=ze (aq.o.below I aq.o.lt);have aU:=ze (ext an.o I);clear aI I;go_wp2_with fail;refine (ym false v4 _ w4 a8.o).mono ?_;rintro e w5 ⟨v5,rfl,aM,aH⟩;obtain ⟨y',B',m',d',ay,rfl,_,_,_⟩:=aM.form;have aR:=zf w5 (.cells #[.int .i64 y',.slice B' m' d',.bool ay] 53);have aa:=ext aH aR;have aD:=ze (aM.below aR);have aQ:=ze (aY.o.below aa);have al:=ze (av.o.below aa av.o.lt);have ap:=ze (aJ.o.below aa aJ.o.lt);have aL:=ze (ext aU.o aa);have aw:=ze (Blk.new w5 53 #[.int .i64 y',.slice B' m' d',.bool ay]);have bj:w.heap.size<w5.heap.size:=(av.o.below aH av.o.lt).lt;have x0:=ap.o.cell 0;have x1:=ap.o.cell 1;have x2:=ap.o.cell 2;simp at x0 x1 x2;clear aH aR aa aM;go_wp2_with fail;generalize bi:w5.heap.size=gy at aw bj |-
               generalize w5.alloc (.cells #[.int .i64 y',.slice B' m' d',.bool ay] 53)=W5 at aD aQ al ap aL aw x0 x1 x2 |-;clear bi;refine (Yp _ _ (signed false nn) (signed false dn) _ aQ.o aD.o (by have:=aN.o;unfold signed;simp;omega) (Nat.le_trans (vW a0.o) (by omega)) (Nat.le_trans (vW ar.o) (by omega))).mono ?_;rintro e w6 ⟨v6,rfl,hq,aG⟩;rw [YR] at hq;obtain ⟨q,aK⟩:∃ q,q=vj false nn dn:=⟨_,rfl⟩;rw [<- aK] at hq G;obtain ⟨R,Q,S,O,n5,U,Y,T,Z,V,rfl,aZ,aV⟩:=hq;have aB:=zf w6 (.cells #[.int .i64 R,.slice Q S O,.bool n5,.int .i64 U,.slice Y T Z,.bool V] 55);have aa:=ext aG aB;have aP:=ze (aZ.below aB);have aO:=ze (aV.below aB);have aF:=ze (aD.o.below aa);have aW:=ze (show XN _ w.heap.size from ⟨_,_,_,_,_,_,_,_,_,_,al.o.below aa al.o.lt⟩);have au:=ze (aw.o.below aa aw.o.lt);have aT:=ze (ext aL.o aa);have ae:=ze (Blk.new w6 55 #[.int .i64 R,.slice Q S O,.bool n5,.int .i64 U,.slice Y T Z,.bool V]);have a3:w.heap.size<w6.heap.size:=(al.o.below aG al.o.lt).lt
               have bb:=ze (show len 4294967296 (q.den:Int).natAbs<=67108864 by
                rw [aK, <- YR];have h9:=V3 (zn:=signed false nn) (zd:=signed false dn) (by have:=aN.o;unfold signed;simp;omega) (Nat.le_trans (vW ar.o) (by omega));rw [h9.2.1]
                refine Nat.le_trans (vI (by omega) (Int.natAbs_tdiv_le_natAbs _ _)) (Nat.le_trans (vW ar.o) (by omega)))
               clear aG aB aa aZ aV x0 x1 x2 aq aJ ap ai av al aw am aY aQ aD ah ax an aU aL ab K aK;go_wp2_with fail;generalize ba:w6.heap.size=gq at ae a3 |-;generalize w6.alloc (.cells #[.int .i64 R,.slice Q S O,.bool n5,.int .i64 U,.slice Y T Z,.bool V] 55)=W7 at aP aO aF aW au aT ae |-;clear ba;have bx:=ae.o.lt;have bv:=au.o.lt;have q0:=ae.o.cell 0;have q1:=ae.o.cell 1;have q2:=ae.o.cell 2;have q3:=ae.o.cell 3;have q4:=ae.o.cell 4;have q5:=ae.o.cell 5;have y0:=au.o.cell 0;have y1:=au.o.cell 1;have y2:=au.o.cell 2;simp at q0 q1 q2 q3 q4 q5 y0 y1 y2;have a4:=ze (show XN W7.drew w.heap.size from aW.o);have be:=ze (show Below w.heap.size w W7.drew from zo aT.o 1);have a5:=ze (show yb W7.drew _ q.num from aP.o.below (zD W7 1));have a2:=ze (show yb W7.drew _ (q.den:Int) from aO.o.below (zD W7 1));have bn:=ze (show yb W7.drew _ (signed false dn) from aF.o.below (zD W7 1));clear aP aO aF
               go_region_held3 (fun w' =>w'.cell? ⟨gq,0,none⟩=some (.int .i64 R)/\w'.cell? ⟨gq,1,none⟩=some (.slice Q S O)/\w'.cell? ⟨gq,2,none⟩=some (.bool n5)/\w'.cell? ⟨gq,3,none⟩=some (.int .i64 U)/\w'.cell? ⟨gq,4,none⟩=some (.slice Y T Z)/\w'.cell? ⟨gq,5,none⟩=some (.bool V)/\
                w'.cell? ⟨gy,0,none⟩=some (.int .i64 y')/\w'.cell? ⟨gy,1,none⟩=some (.slice B' m' d')/\w'.cell? ⟨gy,2,none⟩=some (.bool ay)/\gq<w'.heap.size/\gy<w'.heap.size/\Hid (XN w' w.heap.size)/\Hid (Below w.heap.size w w')/\Hid (yb w' (.agg #[.int .i64 R,.slice Q S O,.bool n5]) q.num)/\Hid (yb w' (.agg #[.int .i64 U,.slice Y T Z,.bool V]) (q.den:Int))/\Hid (yb w' (.agg #[.int .i64 y',.slice B' m' d',.bool ay]) (signed false dn)))
                (first
                  | with_reducible exact ⟨by go_keep,by go_keep,by go_keep,by go_keep,by go_keep,by go_keep,by go_keep,by go_keep,by go_keep,by first | (simp;done) | (simp;assumption),by first | (simp;done) | (simp;assumption),a4,be,a5,a2,bn⟩
                  | (go_split_ands;with_reducible exact ⟨zE (by omega) ‹_›,zE (by omega) ‹_›,zE (by omega) ‹_›,zE (by omega) ‹_›,zE (by omega) ‹_›,zE (by omega) ‹_›,zE (by omega) ‹_›,zE (by omega) ‹_›,zE (by omega) ‹_›,ZK ‹_›,ZK ‹_›,ZS ‹_›,Zp (by omega) ‹_›,ZX ‹_› ‹_›,ZX ‹_› ‹_›,ZX ‹_› ‹_›⟩)
                  | (go_split_ands;with_reducible exact ⟨zj ‹_› ‹_› ‹_›,zj ‹_› ‹_› ‹_›,zj ‹_› ‹_› ‹_›,zj ‹_› ‹_› ‹_›,zj ‹_› ‹_› ‹_›,zj ‹_› ‹_› ‹_›,zj ‹_› ‹_› ‹_›,zj ‹_› ‹_› ‹_›,zj ‹_› ‹_› ‹_›,zG ‹_› ‹_›,zG ‹_› ‹_›,Ym ‹_› ‹_›,zr ‹_› ‹_›,zbh ‹_› ‹_›,zbh ‹_› ‹_›,zbh ‹_› ‹_›⟩)
                  | go_keep)
                (first
                  | (go_at_call 110;refine (zja _ _ (q.den:Int) (signed false dn) _ (zK (by go_split_ands;assumption)) (zK (by go_split_ands;assumption)) bb.o (Nat.le_trans (vW ar.o) (by omega))).mono ?_;rintro e wo ⟨rfl,bh⟩;obtain ⟨xr,Ar,kr,cr,sr,yr,Br,bw,bz,tr,J⟩:=(Ym (g:=w.heap.size) bh (by go_split_ands;assumption)).out;have r0:=J.cell 0;have r1:=J.cell 1;have r2:=J.cell 2;have r3:=J.cell 3;have r4:=J.cell 4;have r5:=J.cell 5;have f0:=J.frozen 0;have f1:=J.frozen 1;have f2:=J.frozen 2;have f3:=J.frozen 3;have f4:=J.frozen 4;have f5:=J.frozen 5;simp at r0 r1 r2 r3 r4 r5;have ab:=ze J;clear J))
               all_goals
                go_split_ands;have j:=yx (x:=R) (A:=Q) (k:=S) (c:=O) (s:=n5) (y:=U) (B:=Y) (k' :=T) (c' :=Z) (t:=V) ab.o;have a7:=zK (by assumption:Hid (yb (World.rat wo w.heap.size R Q S O n5 U Y T Z V) (.agg #[.int .i64 R,.slice Q S O,.bool n5]) q.num));have bc:=zK (by assumption:Hid (yb (World.rat wo w.heap.size R Q S O n5 U Y T Z V) (.agg #[.int .i64 U,.slice Y T Z,.bool V]) (q.den:Int)));have bg:=zK (by assumption:Hid (Below w.heap.size w (World.rat wo w.heap.size R Q S O n5 U Y T Z V)));have r:=j.cell 0;have z:=j.cell 1;have C:=j.cell 2;have E:=j.cell 3;have m:=j.cell 4;have D:=j.cell 5;simp only [World.rat] at r z C E m D;simp at r z C E m D;go_wp2;refine bodyPost_ret (v:=.tuple #[.agg #[.int .i64 R,.slice Q S O,.bool n5,.int .i64 U,.slice Y T Z,.bool V],.bool (zP (q.den:Int) (signed false dn) == 0)]) (by simp [results,results71,go_sem,r,z,C,E,m,D]) rfl ?_;exact vD.maybe G.o ⟨_,_,_,_,_,_,_,_,_,_,rfl,a7,bc⟩ bg
   | true=>
     cases za1:(a.toList == [48]) with
     | true=>
       have G:=ze (zsu HN.o.symm (of_decide_eq_true (by rw [<- za];exact za1)));clear za N zc M;go_wp2_with fail;have j:=yx (x:=0) (A:=none) (k:=0) (c:=0) (s:=false) (y:=0) (B:=none) (k' :=0) (c' :=0) (t:=false) ab.o;have r:=j.cell 0;have z:=j.cell 1;have C:=j.cell 2;have E:=j.cell 3;have m:=j.cell 4;have D:=j.cell 5;simp only [World.rat] at r z C E m D;simp at r z C E m D;refine bodyPost_ret (v:=.tuple #[.agg #[.int .i64 0,.slice none 0 0,.bool false,.int .i64 0,.slice none 0 0,.bool false],.bool false]) (by simp [results,results71,go_sem,r,z,C,E,m,D]) rfl ?_;exact vD.no G.o ⟨_,_,_,_,_,_,_,_,_,_,rfl⟩ (yu (x:=0) (A:=none) (k:=0) (c:=0) (s:=false) (y:=0) (B:=none) (k' :=0) (c' :=0) (t:=false) ah.o (Nat.le_refl _))
     | false=>
       cases aX with
       | false=>
         have G:=ze (zbw ao.o (fun _ h=>by have:=za.symm.trans za1;rw [decide_eq_true h] at this;cases this) HI.o.symm);have HC:=ze (YK ao.o);rw [<- HN.o] at G;have aA:=ze (show a.size<=50000 by rw [<- zm,HA.o];exact HC.o.2);clear za N zc M;go_wp2_with fail;refine (YF a _ (by rw [HA.o];exact HC.o.1) aA.o).mono ?_;rintro e X ⟨v,rfl,hv,af⟩;rw [HA.o] at hv;have HV:=ze hv;have K:=ze (ab.o.below af lR);have ax:=ze (ext ah.o af);clear hv af r0 r1 r2 r3 r4 r5 f0 f1 f2 f3 f4 f5;go_wp2_with fail;refine (ym true v _ X HV.o).mono ?_;rintro e w3 ⟨v3,rfl,ag,L⟩;obtain ⟨x',A',k',c',ac,rfl,_,_,_⟩:=ag.form;have I:=zf w3 (.cells #[.int .i64 x',.slice A' k' c',.bool ac] 53);have am:=ze (ag.below I);have F:=(K.o.below L K.o.lt).below I (K.o.below L K.o.lt).lt;have an:=ze (ext (ext ax.o L) I);have ai:=ze F;have r0:=F.cell 0;have r1:=F.cell 1;have r2:=F.cell 2;have r3:=F.cell 3;have r4:=F.cell 4;have r5:=F.cell 5;have f0:=F.frozen 0;have f1:=F.frozen 1;have f2:=F.frozen 2
         have f3:=F.frozen 3;have f4:=F.frozen 4;have f5:=F.frozen 5;simp at r0 r1 r2 r3 r4 r5;have kX:=Blk.new w3 53 #[.int .i64 x',.slice A' k' c',.bool ac];have g0:=kX.cell 0;have g1:=kX.cell 1;have g2:=kX.cell 2;simp at g0 g1 g2;clear L ag I F kX lR;go_wp2_with fail;have ad:=yx (x:=x') (A:=A') (k:=k') (c:=c') (s:=ac) (y:=1) (B:=none) (k' :=0) (c' :=0) (t:=false) ai.o;have r:=ad.cell 0;have z:=ad.cell 1;have C:=ad.cell 2;have E:=ad.cell 3;have m:=ad.cell 4;have D:=ad.cell 5;simp only [World.rat] at r z C E m D;simp at r z C E m D;refine bodyPost_ret (v:=.tuple #[.agg #[.int .i64 x',.slice A' k' c',.bool ac,.int .i64 1,.slice none 0 0,.bool false],.bool true]) (by simp [results,results71,go_sem,r,z,C,E,m,D]) rfl ?_;refine vD.yes G.o ⟨_,_,_,_,_,_,_,_,_,_,rfl,?_,?_⟩ (yu an.o (Nat.le_refl _))
         . rw [(Xs _ _).1]
           exact yz am.o ai.o
         rw [(Xs _ _).2]
         exact zkh _
       | true=>
         cases hpb2:yk (bts b) with
         | false=>
           have G:=ze (Ya HI.o.symm (.inl (by have:=HB.o;rw [if_pos rfl] at this;rw [<- this];exact hpb2)));rw [hpb2] at M;clear hpb2 za N zc;go_wp2_with fail;refine (M _).mono ?_;rintro e X ⟨rfl,rfl⟩;go_wp2_with fail;have j:=yx (x:=0) (A:=none) (k:=0) (c:=0) (s:=false) (y:=0) (B:=none) (k' :=0) (c' :=0) (t:=false) ab.o;have r:=j.cell 0;have z:=j.cell 1;have C:=j.cell 2;have E:=j.cell 3;have m:=j.cell 4;have D:=j.cell 5;simp only [World.rat] at r z C E m D;simp at r z C E m D;refine bodyPost_ret (v:=.tuple #[.agg #[.int .i64 0,.slice none 0 0,.bool false,.int .i64 0,.slice none 0 0,.bool false],.bool false]) (by simp [results,results71,go_sem,r,z,C,E,m,D]) rfl ?_;exact vD.no G.o ⟨_,_,_,_,_,_,_,_,_,_,rfl⟩ (yu (x:=0) (A:=none) (k:=0) (c:=0) (s:=false) (y:=0) (B:=none) (k' :=0) (c' :=0) (t:=false) ah.o (Nat.le_refl _))
         | true=>
           have az:=ze hpb2;rw [hpb2] at M;clear hpb2
           cases zb1:(b.toList == [48]) with
           | true=>
             have G:=ze (Ya HI.o.symm (.inr (.inl (by have:=HB.o;rw [if_pos rfl] at this;rw [<- this];exact of_decide_eq_true (N.symm.trans zb1)))));clear za N zc;go_wp2_with fail;refine (M _).mono ?_;rintro e X ⟨rfl,rfl⟩;go_wp2_with fail;have j:=yx (x:=0) (A:=none) (k:=0) (c:=0) (s:=false) (y:=0) (B:=none) (k' :=0) (c' :=0) (t:=false) ab.o;have r:=j.cell 0;have z:=j.cell 1;have C:=j.cell 2;have E:=j.cell 3;have m:=j.cell 4;have D:=j.cell 5;simp only [World.rat] at r z C E m D;simp at r z C E m D;refine bodyPost_ret (v:=.tuple #[.agg #[.int .i64 0,.slice none 0 0,.bool false,.int .i64 0,.slice none 0 0,.bool false],.bool false]) (by simp [results,results71,go_sem,r,z,C,E,m,D]) rfl ?_;exact vD.no G.o ⟨_,_,_,_,_,_,_,_,_,_,rfl⟩ (yu (x:=0) (A:=none) (k:=0) (c:=0) (s:=false) (y:=0) (B:=none) (k' :=0) (c' :=0) (t:=false) ah.o (Nat.le_refl _))
           | false=>
             cases zc1:(b.toList == [49]) with
             | true=>
               have G:=ze (Ya HI.o.symm (.inr (.inr (.inl (by have:=HB.o;rw [if_pos rfl] at this;rw [<- this];exact of_decide_eq_true (zc.symm.trans zc1))))));clear za N zc;go_wp2_with fail;refine (M _).mono ?_;rintro e X ⟨rfl,rfl⟩;go_wp2_with fail;have j:=yx (x:=0) (A:=none) (k:=0) (c:=0) (s:=false) (y:=0) (B:=none) (k' :=0) (c' :=0) (t:=false) ab.o;have r:=j.cell 0;have z:=j.cell 1;have C:=j.cell 2;have E:=j.cell 3;have m:=j.cell 4;have D:=j.cell 5;simp only [World.rat] at r z C E m D;simp at r z C E m D;refine bodyPost_ret (v:=.tuple #[.agg #[.int .i64 0,.slice none 0 0,.bool false,.int .i64 0,.slice none 0 0,.bool false],.bool false]) (by simp [results,results71,go_sem,r,z,C,E,m,D]) rfl ?_;exact vD.no G.o ⟨_,_,_,_,_,_,_,_,_,_,rfl⟩ (yu (x:=0) (A:=none) (k:=0) (c:=0) (s:=false) (y:=0) (B:=none) (k' :=0) (c' :=0) (t:=false) ah.o (Nat.le_refl _))
             | false=>
               have ak:=ze (show bts b=yt 47 (zq (bts s)) by rw [HB.o];rfl);have HD:=ze (YK az.o);have G:=ze (zir ao.o (fun _ h=>by have:=za.symm.trans za1;rw [decide_eq_true h] at this;cases this) HI.o.symm (by rw [<- ak.o];exact az.o) (fun h=>by have:=N.symm.trans zb1;rw [decide_eq_true (ak.o.trans h)] at this;cases this) (fun h=>by have:=zc.symm.trans zc1;rw [decide_eq_true (ak.o.trans h)] at this;cases this));have aN:=ze (za2 (l:=yt 47 (zq (bts s))) (by rw [<- ak.o];exact az.o) (fun h=>by have:=N.symm.trans zb1;rw [decide_eq_true (ak.o.trans h)] at this;cases this));have ar:=ze (za3 (l:=yt 47 (zq (bts s))) (by rw [<- ak.o];exact az.o));have a0:=ze (za3 ao.o);have HC:=ze (YK ao.o);rw [<- HN.o] at G;have aA:=ze (show a.size<=50000 by rw [<- zm,HA.o];exact HC.o.2);have bd:=ze (show b.size<=50000 by rw [<- zm];exact HD.o.2);clear za N zc;go_wp2_with fail;refine (M _).mono ?_;rintro e X ⟨rfl,rfl⟩;clear M;obtain ⟨dn,aC⟩:∃ dn,dn=zH (yt 47 (zq (bts s))):=⟨_,rfl⟩
               obtain ⟨nn,aE⟩:∃ nn,nn=zH (ahead 47 (zq (bts s))):=⟨_,rfl⟩;rw [<- aC, <- aE] at G;rw [<- aC] at aN ar;rw [<- aE] at a0;have a1:=ze aC;have bl:=ze aE;clear aC aE;go_wp2_with fail;refine (YF a _ (by rw [HA.o];exact HC.o.1) aA.o).mono ?_;rintro e X ⟨v,rfl,hv,af⟩;rw [HA.o, <- bl.o] at hv;have HV:=ze hv;have K:=ze (ab.o.below af lR);have ax:=ze (ext ah.o af);clear hv af r0 r1 r2 r3 r4 r5 f0 f1 f2 f3 f4 f5;go_wp2_with fail;refine (ym true v _ X HV.o).mono ?_;rintro e w3 ⟨v3,rfl,ag,L⟩;obtain ⟨x',A',k',c',ac,rfl,_,_,_⟩:=ag.form;have I:=zf w3 (.cells #[.int .i64 x',.slice A' k' c',.bool ac] 53);have am:=ze (ag.below I);have F:=(K.o.below L K.o.lt).below I (K.o.below L K.o.lt).lt;have an:=ze (ext (ext ax.o L) I);have ai:=ze F;have kX:=Blk.new w3 53 #[.int .i64 x',.slice A' k' c',.bool ac];have aq:=ze kX;have bf:w.heap.size<w3.heap.size:=(K.o.below L K.o.lt).lt;clear L ag I F kX lR;go_wp2_with fail;generalize bm:w3.heap.size=gx at aq bf |-
               generalize w3.alloc (.cells #[.int .i64 x',.slice A' k' c',.bool ac] 53)=W3 at am ai an aq |-;clear bm;refine (YF b _ HD.o.1 bd.o).mono ?_;rintro e w4 ⟨v4,rfl,aI,I⟩;rw [ak.o, <- a1.o] at aI;have a8:=ze aI;have aY:=ze (am.o.below I);have av:=ze (ai.o.below I ai.o.lt);have aJ:=ze (aq.o.below I aq.o.lt);have aU:=ze (ext an.o I);clear aI I;go_wp2_with fail;refine (ym false v4 _ w4 a8.o).mono ?_;rintro e w5 ⟨v5,rfl,aM,aH⟩;obtain ⟨y',B',m',d',ay,rfl,_,_,_⟩:=aM.form;have aR:=zf w5 (.cells #[.int .i64 y',.slice B' m' d',.bool ay] 53);have aa:=ext aH aR;have aD:=ze (aM.below aR);have aQ:=ze (aY.o.below aa);have al:=ze (av.o.below aa av.o.lt);have ap:=ze (aJ.o.below aa aJ.o.lt);have aL:=ze (ext aU.o aa);have aw:=ze (Blk.new w5 53 #[.int .i64 y',.slice B' m' d',.bool ay]);have bj:w.heap.size<w5.heap.size:=(av.o.below aH av.o.lt).lt;have x0:=ap.o.cell 0;have x1:=ap.o.cell 1;have x2:=ap.o.cell 2;simp at x0 x1 x2;clear aH aR aa aM
               go_wp2_with fail;generalize bi:w5.heap.size=gy at aw bj |-;generalize w5.alloc (.cells #[.int .i64 y',.slice B' m' d',.bool ay] 53)=W5 at aD aQ al ap aL aw x0 x1 x2 |-;clear bi;refine (Yp _ _ (signed true nn) (signed false dn) _ aQ.o aD.o (by have:=aN.o;unfold signed;simp;omega) (Nat.le_trans (vW a0.o) (by omega)) (Nat.le_trans (vW ar.o) (by omega))).mono ?_;rintro e w6 ⟨v6,rfl,hq,aG⟩;rw [YR] at hq;obtain ⟨q,aK⟩:∃ q,q=vj true nn dn:=⟨_,rfl⟩;rw [<- aK] at hq G;obtain ⟨R,Q,S,O,n5,U,Y,T,Z,V,rfl,aZ,aV⟩:=hq;have aB:=zf w6 (.cells #[.int .i64 R,.slice Q S O,.bool n5,.int .i64 U,.slice Y T Z,.bool V] 55);have aa:=ext aG aB;have aP:=ze (aZ.below aB);have aO:=ze (aV.below aB);have aF:=ze (aD.o.below aa);have aW:=ze (show XN _ w.heap.size from ⟨_,_,_,_,_,_,_,_,_,_,al.o.below aa al.o.lt⟩);have au:=ze (aw.o.below aa aw.o.lt);have aT:=ze (ext aL.o aa);have ae:=ze (Blk.new w6 55 #[.int .i64 R,.slice Q S O,.bool n5,.int .i64 U,.slice Y T Z,.bool V])
               have a3:w.heap.size<w6.heap.size:=(al.o.below aG al.o.lt).lt
               have bb:=ze (show len 4294967296 (q.den:Int).natAbs<=67108864 by
                rw [aK, <- YR];have h9:=V3 (zn:=signed true nn) (zd:=signed false dn) (by have:=aN.o;unfold signed;simp;omega) (Nat.le_trans (vW ar.o) (by omega));rw [h9.2.1]
                refine Nat.le_trans (vI (by omega) (Int.natAbs_tdiv_le_natAbs _ _)) (Nat.le_trans (vW ar.o) (by omega)))
               clear aG aB aa aZ aV x0 x1 x2 aq aJ ap ai av al aw am aY aQ aD ah ax an aU aL ab K aK;go_wp2_with fail;generalize ba:w6.heap.size=gq at ae a3 |-;generalize w6.alloc (.cells #[.int .i64 R,.slice Q S O,.bool n5,.int .i64 U,.slice Y T Z,.bool V] 55)=W7 at aP aO aF aW au aT ae |-;clear ba;have bx:=ae.o.lt;have bv:=au.o.lt;have q0:=ae.o.cell 0;have q1:=ae.o.cell 1;have q2:=ae.o.cell 2;have q3:=ae.o.cell 3;have q4:=ae.o.cell 4;have q5:=ae.o.cell 5;have y0:=au.o.cell 0;have y1:=au.o.cell 1;have y2:=au.o.cell 2;simp at q0 q1 q2 q3 q4 q5 y0 y1 y2;have a4:=ze (show XN W7.drew w.heap.size from aW.o);have be:=ze (show Below w.heap.size w W7.drew from zo aT.o 1);have a5:=ze (show yb W7.drew _ q.num from aP.o.below (zD W7 1));have a2:=ze (show yb W7.drew _ (q.den:Int) from aO.o.below (zD W7 1));have bn:=ze (show yb W7.drew _ (signed false dn) from aF.o.below (zD W7 1));clear aP aO aF
               go_region_held3 (fun w' =>w'.cell? ⟨gq,0,none⟩=some (.int .i64 R)/\w'.cell? ⟨gq,1,none⟩=some (.slice Q S O)/\w'.cell? ⟨gq,2,none⟩=some (.bool n5)/\w'.cell? ⟨gq,3,none⟩=some (.int .i64 U)/\w'.cell? ⟨gq,4,none⟩=some (.slice Y T Z)/\w'.cell? ⟨gq,5,none⟩=some (.bool V)/\
                w'.cell? ⟨gy,0,none⟩=some (.int .i64 y')/\w'.cell? ⟨gy,1,none⟩=some (.slice B' m' d')/\w'.cell? ⟨gy,2,none⟩=some (.bool ay)/\gq<w'.heap.size/\gy<w'.heap.size/\Hid (XN w' w.heap.size)/\Hid (Below w.heap.size w w')/\Hid (yb w' (.agg #[.int .i64 R,.slice Q S O,.bool n5]) q.num)/\Hid (yb w' (.agg #[.int .i64 U,.slice Y T Z,.bool V]) (q.den:Int))/\Hid (yb w' (.agg #[.int .i64 y',.slice B' m' d',.bool ay]) (signed false dn)))
                (first
                  | with_reducible exact ⟨by go_keep,by go_keep,by go_keep,by go_keep,by go_keep,by go_keep,by go_keep,by go_keep,by go_keep,by first | (simp;done) | (simp;assumption),by first | (simp;done) | (simp;assumption),a4,be,a5,a2,bn⟩
                  | (go_split_ands;with_reducible exact ⟨zE (by omega) ‹_›,zE (by omega) ‹_›,zE (by omega) ‹_›,zE (by omega) ‹_›,zE (by omega) ‹_›,zE (by omega) ‹_›,zE (by omega) ‹_›,zE (by omega) ‹_›,zE (by omega) ‹_›,ZK ‹_›,ZK ‹_›,ZS ‹_›,Zp (by omega) ‹_›,ZX ‹_› ‹_›,ZX ‹_› ‹_›,ZX ‹_› ‹_›⟩)
                  | (go_split_ands;with_reducible exact ⟨zj ‹_› ‹_› ‹_›,zj ‹_› ‹_› ‹_›,zj ‹_› ‹_› ‹_›,zj ‹_› ‹_› ‹_›,zj ‹_› ‹_› ‹_›,zj ‹_› ‹_› ‹_›,zj ‹_› ‹_› ‹_›,zj ‹_› ‹_› ‹_›,zj ‹_› ‹_› ‹_›,zG ‹_› ‹_›,zG ‹_› ‹_›,Ym ‹_› ‹_›,zr ‹_› ‹_›,zbh ‹_› ‹_›,zbh ‹_› ‹_›,zbh ‹_› ‹_›⟩)
                  | go_keep)
                (first
                  | (go_at_call 110;refine (zja _ _ (q.den:Int) (signed false dn) _ (zK (by go_split_ands;assumption)) (zK (by go_split_ands;assumption)) bb.o (Nat.le_trans (vW ar.o) (by omega))).mono ?_;rintro e wo ⟨rfl,bh⟩;obtain ⟨xr,Ar,kr,cr,sr,yr,Br,bw,bz,tr,J⟩:=(Ym (g:=w.heap.size) bh (by go_split_ands;assumption)).out;have r0:=J.cell 0;have r1:=J.cell 1;have r2:=J.cell 2;have r3:=J.cell 3;have r4:=J.cell 4;have r5:=J.cell 5;have f0:=J.frozen 0;have f1:=J.frozen 1;have f2:=J.frozen 2;have f3:=J.frozen 3;have f4:=J.frozen 4;have f5:=J.frozen 5;simp at r0 r1 r2 r3 r4 r5;have ab:=ze J;clear J))
               all_goals
                go_split_ands;have j:=yx (x:=R) (A:=Q) (k:=S) (c:=O) (s:=n5) (y:=U) (B:=Y) (k' :=T) (c' :=Z) (t:=V) ab.o;have a7:=zK (by assumption:Hid (yb (World.rat wo w.heap.size R Q S O n5 U Y T Z V) (.agg #[.int .i64 R,.slice Q S O,.bool n5]) q.num));have bc:=zK (by assumption:Hid (yb (World.rat wo w.heap.size R Q S O n5 U Y T Z V) (.agg #[.int .i64 U,.slice Y T Z,.bool V]) (q.den:Int)));have bg:=zK (by assumption:Hid (Below w.heap.size w (World.rat wo w.heap.size R Q S O n5 U Y T Z V)));have r:=j.cell 0;have z:=j.cell 1;have C:=j.cell 2;have E:=j.cell 3;have m:=j.cell 4;have D:=j.cell 5;simp only [World.rat] at r z C E m D;simp at r z C E m D;go_wp2;refine bodyPost_ret (v:=.tuple #[.agg #[.int .i64 R,.slice Q S O,.bool n5,.int .i64 U,.slice Y T Z,.bool V],.bool (zP (q.den:Int) (signed false dn) == 0)]) (by simp [results,results71,go_sem,r,z,C,E,m,D]) rfl ?_;exact vD.maybe G.o ⟨_,_,_,_,_,_,_,_,_,_,rfl,a7,bc⟩ bg
def zv2 (w:World) (la lb:List UInt8) (e:Ending) (w' :World):Prop:=
 ∃ v1 v2 b,e= .returned (.tuple #[v1,v2,.bool b])/\zvv v1/\zvv v2/\b=((zp la).isSome && (zp lb).isSome)/\(∀ q,zp la=some q->yc w' v1 q)/\(∀ q,zp lb=some q->yc w' v2 q)/\Below w.heap.size w w'
theorem yc.stored {W:World} {g:Nat} {v:Value} {q:Rat} {x y x0 y0:Int} {A B A0 B0:Option Addr} {k c k' c' k0 c0 k1 c1:Nat} {s t s0 t0:Bool} {t' :TypeId} (h:yc W v q)
 (hk:Blk W g t' #[.int .i64 x0,.slice A0 k0 c0,.bool s0,.int .i64 y0,.slice B0 k1 c1,.bool t0]):yc (World.rat W g x A k c s y B k' c' t) v q:=by
 obtain ⟨r,E,m,j,D,C,l,u,z,t5,rfl,e,b⟩:=h
 exact ⟨_,_,_,_,_,_,_,_,_,_,rfl,yz e hk,yz b hk⟩
theorem zt6 (a b:ByteArray) (w:World) (ha:a.size<=1073741824) (hb:b.size<=1073741824):
 Calls Tryz.prog 52 #[.string a,.string b] w (zv2 w (bts a) (bts b)):=by
 have au:=fun w=>Vp a w ha
 have am:=fun w=>Vp b w hb
 have kA:=(Blk.new w 55 #[.int .i64 0,.slice none 0 0,.bool false,.int .i64 0,.slice none 0 0,.bool false]).alloc (.cells #[.int .i64 0,.slice none 0 0,.bool false,.int .i64 0,.slice none 0 0,.bool false] 55)
 have kB:=Blk.new (w.alloc (.cells #[.int .i64 0,.slice none 0 0,.bool false,.int .i64 0,.slice none 0 0,.bool false] 55)) 55 #[.int .i64 0,.slice none 0 0,.bool false,.int .i64 0,.slice none 0 0,.bool false]
 have hW:=ext (zf w (.cells #[.int .i64 0,.slice none 0 0,.bool false,.int .i64 0,.slice none 0 0,.bool false] 55)) (zf _ (.cells #[.int .i64 0,.slice none 0 0,.bool false,.int .i64 0,.slice none 0 0,.bool false] 55))
 simp only [World.size_alloc] at kB
 go_enter func52,ntmps52
 go_wp2_with fail
 generalize (w.alloc (.cells #[.int .i64 0,.slice none 0 0,.bool false,.int .i64 0,.slice none 0 0,.bool false] 55)).alloc (.cells #[.int .i64 0,.slice none 0 0,.bool false,.int .i64 0,.slice none 0 0,.bool false] 55)=W at kA kB hW |-
 refine (au _).mono ?_
 rintro e w1 ⟨v1,b1,rfl,⟨I,M,k1,c1,s1,R,J,O,N,Q,rfl⟩,ak,aq,ag⟩
 have r:=kA.below ag kA.lt
 have al:=kB.below ag kB.lt
 have a0:=r.cell 0
 have T:=r.cell 1
 have a2:=r.cell 2
 have a3:=r.cell 3
 have a4:=r.cell 4
 have a5:=r.cell 5
 have f0:=r.frozen 0
 have f1:=r.frozen 1
 have f2:=r.frozen 2
 have f3:=r.frozen 3
 have f4:=r.frozen 4
 have f5:=r.frozen 5
 simp at a0 T a2 a3 a4 a5
 have ab:=ze (yx (x:=I) (A:=M) (k:=k1) (c:=c1) (s:=s1) (y:=R) (B:=J) (k' :=O) (c' :=N) (t:=Q) r)
 have aa:=ze (zbi (g' :=w.heap.size) (x:=I) (A:=M) (k:=k1) (c:=c1) (s:=s1) (y:=R) (B:=J) (k' :=O) (c' :=N) (t:=Q) al (by omega))
 have ae:=ze (show ∀ q,zp (bts a)=some q->yc (World.rat w1 w.heap.size I M k1 c1 s1 R J O N Q) _ q from fun q hq=>(aq q hq).stored r)
 have ah:=ze (yu (g:=w.heap.size) (x:=I) (A:=M) (k:=k1) (c:=c1) (s:=s1) (y:=R) (B:=J) (k' :=O) (c' :=N) (t:=Q) (ext hW ag) (Nat.le_refl _))
 have ao:=ze ak
 clear kA kB hW ak aq ag r al au
 simp only [World.rat] at ab aa ae ah
 go_wp2_with fail
 generalize (((((w1.setCell { block:=w.heap.size,off:=0 } (.int .i64 I)).setCell { block:=w.heap.size,off:=1 } (.slice M k1 c1)).setCell { block:=w.heap.size,off:=2 } (.bool s1)).setCell { block:=w.heap.size,off:=3 } (.int .i64 R)).setCell { block:=w.heap.size,off:=4 } (.slice J O N)).setCell { block:=w.heap.size,off:=5 } (.bool Q)=W1 at ab aa ae ah |-
 clear a0 T a2 a3 a4 a5 f0 f1 f2 f3 f4 f5
 refine (am _).mono ?_
 rintro e w2 ⟨v2,b2,rfl,⟨E,G,k2,c2,s2,u,C,F,z,D,rfl⟩,ap,ar,ac⟩
 have an:=ab.o.below ac ab.o.lt
 have m:=aa.o.below ac aa.o.lt
 have a0:=m.cell 0
 have T:=m.cell 1
 have a2:=m.cell 2
 have a3:=m.cell 3
 have a4:=m.cell 4
 have a5:=m.cell 5
 have f0:=m.frozen 0
 have f1:=m.frozen 1
 have f2:=m.frozen 2
 have f3:=m.frozen 3
 have f4:=m.frozen 4
 have f5:=m.frozen 5
 simp at a0 T a2 a3 a4 a5
 have l:=ze (yx (x:=E) (A:=G) (k:=k2) (c:=c2) (s:=s2) (y:=u) (B:=C) (k' :=F) (c' :=z) (t:=D) m)
 have j:=ze (zbi (g' :=w.heap.size+1) (x:=E) (A:=G) (k:=k2) (c:=c2) (s:=s2) (y:=u) (B:=C) (k' :=F) (c' :=z) (t:=D) an (by omega))
 have ai :=ze (show ∀ q,zp (bts a)=some q->yc (World.rat w2 (w.heap.size+1) E G k2 c2 s2 u C F z D) _ q from fun q hq=>((ae.o q hq).below ac).stored m)
 have af:=ze (show ∀ q,zp (bts b)=some q->yc (World.rat w2 (w.heap.size+1) E G k2 c2 s2 u C F z D) _ q from fun q hq=>(ar q hq).stored m)
 have ad:=ze (yu (g:=w.heap.size+1) (x:=E) (A:=G) (k:=k2) (c:=c2) (s:=s2) (y:=u) (B:=C) (k' :=F) (c' :=z) (t:=D) (ext ah.o ac) (by omega))
 have av:=ze ap
 clear ap ar ac an m am ab aa ae ah
 simp only [World.rat] at j l ai af ad
 go_wp2_with fail
 generalize (((((w2.setCell { block:=w.heap.size+1,off:=0 } (.int .i64 E)).setCell { block:=w.heap.size+1,off:=1 } (.slice G k2 c2)).setCell { block:=w.heap.size+1,off:=2 } (.bool s2)).setCell { block:=w.heap.size+1,off:=3 } (.int .i64 u)).setCell { block:=w.heap.size+1,off:=4 } (.slice C F z)).setCell { block:=w.heap.size+1,off:=5 } (.bool D)=W2 at j l ai af ad |-
 clear a0 T a2 a3 a4 a5 f0 f1 f2 f3 f4 f5
 have a0:=j.o.cell 0
 have T:=j.o.cell 1
 have a2:=j.o.cell 2
 have a3:=j.o.cell 3
 have a4:=j.o.cell 4
 have a5:=j.o.cell 5
 have f0:=j.o.frozen 0
 have f1:=j.o.frozen 1
 have f2:=j.o.frozen 2
 have f3:=j.o.frozen 3
 have f4:=j.o.frozen 4
 have f5:=j.o.frozen 5
 have d0:=l.o.cell 0
 have d1:=l.o.cell 1
 have d2:=l.o.cell 2
 have d3:=l.o.cell 3
 have d4:=l.o.cell 4
 have d5:=l.o.cell 5
 have g0:=l.o.frozen 0
 have g1:=l.o.frozen 1
 have g2:=l.o.frozen 2
 have g3:=l.o.frozen 3
 have g4:=l.o.frozen 4
 have g5:=l.o.frozen 5
 simp at a0 T a2 a3 a4 a5 d0 d1 d2 d3 d4 d5
 cases b1 with
 | true=>
   have HR:=ze (show b2=((zp (bts a)).isSome && (zp (bts b)).isSome) by rw [<- ao.o, <- av.o];rfl)
   go_region
   go_wp2;have aj:=yx (x:=I) (A:=M) (k:=k1) (c:=c1) (s:=s1) (y:=R) (B:=J) (k' :=O) (c' :=N) (t:=Q) j.o;have U:=zbi (g' :=w.heap.size) (x:=I) (A:=M) (k:=k1) (c:=c1) (s:=s1) (y:=R) (B:=J) (k' :=O) (c' :=N) (t:=Q) l.o (by omega);have K:=zbi (g' :=w.heap.size+1) (x:=E) (A:=G) (k:=k2) (c:=c2) (s:=s2) (y:=u) (B:=C) (k' :=F) (c' :=z) (t:=D) aj (by omega);have L:=yx (x:=E) (A:=G) (k:=k2) (c:=c2) (s:=s2) (y:=u) (B:=C) (k' :=F) (c' :=z) (t:=D) U;have V:=K.cell 0;have X:=K.cell 1;have S:=K.cell 2;have e3:=K.cell 3;have e4:=K.cell 4;have e5:=K.cell 5;have h0:=L.cell 0;have h1:=L.cell 1;have Y:=L.cell 2;have h3:=L.cell 3;have Z:=L.cell 4;have h5:=L.cell 5;simp only [World.rat] at V X S e3 e4 e5 h0 h1 Y h3 Z h5;simp at V X S e3 e4 e5 h0 h1 Y h3 Z h5
   refine bodyPost_ret (v:=.tuple #[.agg #[.int .i64 I,.slice M k1 c1,.bool s1,.int .i64 R,.slice J O N,.bool Q],.agg #[.int .i64 E,.slice G k2 c2,.bool s2,.int .i64 u,.slice C F z,.bool D],.bool b2]) (by simp [results,results52,go_sem,V,X,S,e3,e4,e5,h0,h1,Y,h3,Z,h5]) rfl ?_;have hd:=zD (World.rat (World.rat W2 w.heap.size I M k1 c1 s1 R J O N Q) (w.heap.size+1) E G k2 c2 s2 u C F z D) 1;exact ⟨_,_,_,rfl,⟨_,_,_,_,_,_,_,_,_,_,rfl⟩,⟨_,_,_,_,_,_,_,_,_,_,rfl⟩,HR.o,fun q hq=>(((ai.o q hq).stored j.o).stored U).below hd,fun q hq=>(((af.o q hq).stored j.o).stored U).below hd,zo (yu (yu ad.o (Nat.le_refl _)) (by omega)) 1⟩
 | false=>
   have HR:=ze (show false=((zp (bts a)).isSome && (zp (bts b)).isSome) by rw [<- ao.o];rfl)
   go_region
   go_wp2;have aj:=yx (x:=I) (A:=M) (k:=k1) (c:=c1) (s:=s1) (y:=R) (B:=J) (k' :=O) (c' :=N) (t:=Q) j.o;have U:=zbi (g' :=w.heap.size) (x:=I) (A:=M) (k:=k1) (c:=c1) (s:=s1) (y:=R) (B:=J) (k' :=O) (c' :=N) (t:=Q) l.o (by omega);have K:=zbi (g' :=w.heap.size+1) (x:=E) (A:=G) (k:=k2) (c:=c2) (s:=s2) (y:=u) (B:=C) (k' :=F) (c' :=z) (t:=D) aj (by omega);have L:=yx (x:=E) (A:=G) (k:=k2) (c:=c2) (s:=s2) (y:=u) (B:=C) (k' :=F) (c' :=z) (t:=D) U;have V:=K.cell 0;have X:=K.cell 1;have S:=K.cell 2;have e3:=K.cell 3;have e4:=K.cell 4;have e5:=K.cell 5;have h0:=L.cell 0;have h1:=L.cell 1;have Y:=L.cell 2;have h3:=L.cell 3;have Z:=L.cell 4;have h5:=L.cell 5;simp only [World.rat] at V X S e3 e4 e5 h0 h1 Y h3 Z h5;simp at V X S e3 e4 e5 h0 h1 Y h3 Z h5
   refine bodyPost_ret (v:=.tuple #[.agg #[.int .i64 I,.slice M k1 c1,.bool s1,.int .i64 R,.slice J O N,.bool Q],.agg #[.int .i64 E,.slice G k2 c2,.bool s2,.int .i64 u,.slice C F z,.bool D],.bool false]) (by simp [results,results52,go_sem,V,X,S,e3,e4,e5,h0,h1,Y,h3,Z,h5]) rfl ?_;have hd:=zD (World.rat (World.rat W2 w.heap.size I M k1 c1 s1 R J O N Q) (w.heap.size+1) E G k2 c2 s2 u C F z D) 1;exact ⟨_,_,_,rfl,⟨_,_,_,_,_,_,_,_,_,_,rfl⟩,⟨_,_,_,_,_,_,_,_,_,_,rfl⟩,HR.o,fun q hq=>(((ai.o q hq).stored j.o).stored U).below hd,fun q hq=>(((af.o q hq).stored j.o).stored U).below hd,zo (yu (yu ad.o (Nat.le_refl _)) (by omega)) 1⟩
end Go.Proofs.YthbmhkiphmcogaaGreatDoor
namespace Go.Proofs.YthbmhkiphmcogaaGreatDoor
open Proofs.Tryz Go.RowKit Go.Deep
def op2 (f:Rat->Rat->Rat) (la lb:List UInt8):List UInt8×Int:=match zp la,zp lb with
 | some x,some y=>zaq (f x y)
 | _,_=>([],4)
theorem zw1 {f:Rat->Rat->Rat} {la lb:List UInt8} (h:((zp la).isSome && (zp lb).isSome)=false):op2 f la lb=([],4):=by
 unfold op2
 cases ha:zp la with
 | none=>rfl
 | some x=>
   cases hb:zp lb with
   | none=>rfl
   | some y=>rw [ha,hb] at h;cases h
theorem zq8 {la lb:List UInt8} (h:((zp la).isSome && (zp lb).isSome)=true):∃ x y,zp la=some x/\zp lb=some y:=by
 cases ha:zp la with
 | none=>rw [ha] at h;cases h
 | some x=>
   cases hb:zp lb with
   | none=>rw [ha,hb] at h;cases h
   | some y=>exact ⟨x,y,rfl,rfl⟩
theorem zul {f:Rat->Rat->Rat} {la lb:List UInt8} {x y:Rat} (ha:zp la=some x) (hb:zp lb=some y):op2 f la lb=zaq (f x y):=by unfold op2;rw [ha,hb]
theorem zpj {l:List UInt8} {q:Rat} (h:zp l=some q):Z9 50000 q:=(xe.1 h).2.len
theorem Z9.more {M K:Nat} {q:Rat} (h:Z9 M q) (hM:M<=K):Z9 K q:=⟨Nat.le_trans h.1 hM,Nat.le_trans h.2 hM⟩
theorem Z9.of_dz {e:Nat} {q:Rat} (h:Dz e q):Z9 (e+1) q:=(Dz.short h (Nat.lt_succ_self e)).len
theorem zxo {l:List UInt8} {q:Rat} (h:zp l=some q):Dz 50000 q:=(xe.1 h).2.sz
theorem ztb {e f:Nat} {p q:Rat} (hp:Dz e p) (hq:Dz f q) (h:q≠0):Dz (e+f) (p / q):=by
 rw [<- zqq _ _ h]
 have b:q.num≠0:=fun e=>h (Rat.num_eq_zero.1 e)
 refine zu9 (s:=(p.den:Int)*q.num) (M:=p.num*q.den) (Int.mul_ne_zero (by have:=p.den_nz;omega) b) ?_ ?_ ?_
 . rw [Rat.divInt_eq_div]
   have j:=zi8 (Int.mul_ne_zero (show (p.den:Int)≠0 by have:=p.den_nz;omega) b)
   grind
 . rw [Int.natAbs_mul,Nat.pow_add];exact Nat.mul_le_mul hp.1 (by simpa using hq.2)
 . rw [Int.natAbs_mul,Nat.pow_add];exact Nat.mul_le_mul (by simpa using hp.2) hq.1
theorem zmy (a b:ByteArray) (w:World) (ha:a.size<=1073741824) (hb:b.size<=1073741824):
 Calls Tryz.prog 23 #[.string a,.string b,.func (.func 24) #[] #[]] w (zye w (op2 (· + ·) (bts a) (bts b))):=by
 have E:=fun w=>zt6 a b w ha hb
 go_enter func23,ntmps23
 go_wp2_with fail
 refine (E _).mono ?_
 rintro e w1 ⟨v1,v2,bb,rfl,⟨L,Z,k1,c1,s1,y1,T,ac,ab,t1,rfl⟩,⟨x2,A2,k2,c2,s2,M,R,aa,N,Y,rfl⟩,l,G,J,K⟩
 have j:=ext (zf w1 (.cells #[.int .i64 L,.slice Z k1 c1,.bool s1,.int .i64 y1,.slice T ac ab,.bool t1] 55)) (zf _ (.cells #[.int .i64 x2,.slice A2 k2 c2,.bool s2,.int .i64 M,.slice R aa N,.bool Y] 55))
 have S:=ze (show ∀ q,zp (bts a)=some q->yc _ _ q from fun q hq=>(G q hq).below j)
 have V:=ze (show ∀ q,zp (bts b)=some q->yc _ _ q from fun q hq=>(J q hq).below j)
 have C:=ze (ext K j)
 clear G J K j E
 cases bb with
 | false=>
   have r:=ze (zw1 (f:=(· + ·)) l.symm);clear l;go_wp2_with fail;go_ret2;rw [r.o];exact ⟨rfl,C.o⟩
 | true=>
   obtain ⟨x,y,u,z⟩:=zq8 l.symm;have r:=ze (zul (f:=(· + ·)) u z);have B:=ze u;have m:=ze z;clear l u z;go_wp2_with fail;refine (YA _ _ x y _ (S.o x B.o) (V.o y m.o) ((zpj B.o).more (by omega)) ((zpj m.o).more (by omega))).mono ?_;rintro e w2 ⟨v,rfl,D,F⟩;have U:=ze (show Z9 67108864 ((· + ·) x y) from (Z9.of_dz (e:=100001) (Dz.add (zxo B.o) (zxo m.o) (by omega))).more (by omega));have X:=ze D;have Q:=ze (ext C.o F);clear D F;go_wp2_with fail;refine (zrm v _ w2 X.o U.o).mono ?_;rintro e w3 ⟨rfl,I⟩;have O:=ze I;clear I;go_wp2_with fail;go_ret2;rw [r.o];exact ⟨rfl,ext Q.o O.o⟩
theorem zu5 (a b:ByteArray) (w:World) (ha:a.size<=1073741824) (hb:b.size<=1073741824):
 Calls Tryz.prog 9 #[.string a,.string b] w (zye w (op2 (· + ·) (bts a) (bts b))):=by
 have j:=fun w=>zmy a b w ha hb
 go_enter func9,ntmps9
 go_wp2_with fail
 refine (j _).mono ?_
 rintro e w1 ⟨rfl,l⟩
 have m:=ze l
 clear l j
 go_wp2_with fail
 go_ret2
 exact ⟨rfl,m.o⟩
theorem zhr (q:Rat):(ze1 q 0 == 0)=decide (q=0):=by
 unfold ze1
 by_cases b:q<0
 . rw [if_pos b,decide_eq_false (by grind)];rfl
 by_cases e:0<q
 . rw [if_neg b,if_pos e,decide_eq_false (by grind)];rfl
 rw [if_neg b,if_neg e,decide_eq_true (by grind)];rfl
def txt (q:Rat):ByteArray:=⟨(zw q).toArray⟩
theorem zi2 (q:Rat):bts (txt q)=zw q:=xR _
theorem zuf {a:ByteArray} {q:Rat} (h:zp (bts a)=some q):a=txt q:=by
 have b:=(xe.1 h).1
 have e:a=⟨(bts a).toArray⟩:=by
  obtain ⟨d⟩:=a
  simp [bts]
 rw [e,b];rfl
theorem zk4:(⟨#[48]⟩:ByteArray)=txt 0:=by decide
end Go.Proofs.YthbmhkiphmcogaaGreatDoor
