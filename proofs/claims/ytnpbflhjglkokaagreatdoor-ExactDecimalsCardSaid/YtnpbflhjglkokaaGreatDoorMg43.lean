/- Parts of the proof: memory, numbers, walks of the functions that are called. -/
import Derived.Test.YtnpbflhjglkokaaGreatDoorMg22
import Derived.Test.YtnpbflhjglkokaaGreatDoorMg42
set_option linter.unusedVariables false
set_option linter.unusedSimpArgs false
set_option maxHeartbeats 32000000
namespace Go.Proofs.YtnpbflhjglkokaaGreatDoor
open Go.RowKit Go.Deep
attribute [local go_sem ↓] Go.wp_at_zero Go.wp_at_succ
set_option maxRecDepth 100000 in
theorem zdg (a:ByteArray) (p:Int) (w:World) (ha:a.size<=1073741824):
 Calls Tryz.prog 31 #[.string a,.int .i64 p] w (zlq w (yC (bts a) p)):=by
 have hrb:=fun w=>VT a w ha
 cases hq:zq (bts a) with
 | none=>
   have e0:yC (bts a) p=([],4):=by unfold yC;rw [hq]
   rw [e0];have HY:=ze hq;clear e0 hq
   go_enter Tryz.func31,Tryz.ntmps31
   go_wp2_with fail;refine (hrb _).mono ?_;rintro e w1 ⟨v1,bb,rfl,⟨g1,A1,n1,c1,B1,m1,d1,rfl⟩,hbb,hq1,hW⟩;rw [HY.out] at hbb;obtain rfl:bb=false:=hbb;have HW:=ze (ext hW (zf w1 (.cells #[.bool g1,.slice A1 n1 c1,.slice B1 m1 d1] 78)));clear hq1 hW hrb;go_wp2_with fail;go_ret2;exact ⟨rfl,HW.out⟩
 | some q=>
   have HY:=ze hq
   by_cases h1:p<0
   . have e0:yC (bts a) p=([],1):=by unfold yC;rw [hq];exact if_pos (.inl h1)
     rw [e0];clear e0 hq
     go_enter Tryz.func31,Tryz.ntmps31
     go_wp2_with fail;refine (hrb _).mono ?_;rintro e w1 ⟨v1,bb,rfl,⟨g1,A1,n1,c1,B1,m1,d1,rfl⟩,hbb,hq1,hW⟩;rw [HY.out] at hbb;obtain rfl:bb=true:=hbb;have HW:=ze (ext hW (zf w1 (.cells #[.bool g1,.slice A1 n1 c1,.slice B1 m1 d1] 78)));clear hq1 hW hrb;go_wp2_with fail;go_ret2;exact ⟨rfl,HW.out⟩
   by_cases h2:50<p
   . have e0:yC (bts a) p=([],1):=by unfold yC;rw [hq];exact if_pos (.inr h2)
     rw [e0];clear e0 hq
     go_enter Tryz.func31,Tryz.ntmps31
     go_wp2_with fail;refine (hrb _).mono ?_;rintro e w1 ⟨v1,bb,rfl,⟨g1,A1,n1,c1,B1,m1,d1,rfl⟩,hbb,hq1,hW⟩;rw [HY.out] at hbb;obtain rfl:bb=true:=hbb;have HW:=ze (ext hW (zf w1 (.cells #[.bool g1,.slice A1 n1 c1,.slice B1 m1 d1] 78)));clear hq1 hW hrb;go_wp2_with fail;go_ret2;exact ⟨rfl,HW.out⟩
   obtain ⟨k,rfl⟩:∃ k:Nat,p=(k:Int):=⟨p.toNat,by omega⟩;have e0:yC (bts a) (k:Int)=(zlh (VQ q k) k,0):=by unfold yC;rw [hq];show (if _ then _ else _)=_;rw [if_neg (by omega)];rfl
   rw [e0];exact XU a q k w ha hq (by omega)
set_option maxRecDepth 100000 in
theorem zbj (a:ByteArray) (p:Int) (w:World) (ha:a.size<=reachBytes):
 Calls Tryz.prog 7 #[.string a,.int .i64 p] w (zg1 w (.bool true)):=by
 have hx:=zf w (.cells #[.string a] 39)
 have hlong:=zkv a _ _ (Blk.new w 39 #[.string a]) ha
 by_cases hs:600<a.size
 . rw [decide_eq_true hs] at hlong
   have HL:=ze hlong;have HW:=ze hx;clear hlong hs hx ha
   go_enter Tryz.func7,Tryz.ntmps7
   go_wp2_with fail;refine HL.out.mono ?_;rintro e w1 ⟨rfl,rfl⟩;go_wp2_with fail;refine (zcl _).mono ?_;rintro e w2 ⟨rfl,hb2⟩;replace HW:=eb_ HW hb2;clear hb2;go_wp2_with fail;go_ret;exact ⟨rfl,HW.out⟩
 rw [decide_eq_false hs] at hlong
 have ha2:a.size<=1073741824:=by omega
 have HL:=ze hlong
 have HW:=ze hx
 clear hlong hs hx ha
 obtain ⟨l0,x0,P0,Q0⟩:∃ (l:List UInt8) (x:Int),Hid (∀ w,Calls Tryz.prog 30 #[.string a,.int .i64 p] w (zlq w (l,x)))/\Hid (∀ w,Calls Tryz.prog 31 #[.string a,.int .i64 p] w (zlq w (l,x))):=
  ⟨(yC (bts a) p).1,(yC (bts a) p).2,ze fun w=>zbg a p w ha2,ze fun w=>zdg a p w ha2⟩
 clear ha2
 go_enter Tryz.func7,Tryz.ntmps7
 go_wp2_with fail
 refine HL.out.mono ?_
 rintro e w1 ⟨rfl,rfl⟩
 clear HL
 generalize w.alloc (.cells #[.string a] 39)=W at HW |-
 go_wp2_with fail
 refine (P0.out _).mono ?_
 rintro e w1 ⟨rfl,hb1⟩
 replace HW:=eb_ HW hb1
 clear hb1 P0
 go_wp2_with fail
 refine (Q0.out _).mono ?_
 rintro e w1 ⟨rfl,hb1⟩
 replace HW:=eb_ HW hb1
 clear hb1 Q0
 go_wp2_with fail
 refine (zcl _).mono ?_
 rintro e w1 ⟨rfl,hb1⟩
 replace HW:=eb_ HW hb1
 clear hb1
 go_wp2_with fail
 go_ret
 exact ⟨rfl,HW.out⟩
end Go.Proofs.YtnpbflhjglkokaaGreatDoor
