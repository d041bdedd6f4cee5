/- Parts of the proof: memory, numbers, walks of the functions that are called. -/
import Derived.Test.YtnpbflhjglkokaaGreatDoorMn23
import Derived.Test.YtnpbflhjglkokaaGreatDoorMn44
set_option linter.unusedVariables false
set_option linter.unusedSimpArgs false
namespace Go.Proofs.YtnpbflhjglkokaaGreatDoor
open Go.RowKit Go.Deep
attribute [local go_sem ↓] Go.wp_at_zero Go.wp_at_succ
set_option maxRecDepth 100000 in
set_option maxHeartbeats 8000000 in
theorem zd3 (t:ByteArray) (n:Int) (w:World) (ht:t.size<=reachBytes) (hn:(Lit.int .i64 n).wf=true):
 Calls Tryz.prog 10 #[.string t,.int .i64 n] w (zdt w (.bool true)):=by
 obtain ⟨h1,h2⟩: -9223372036854775808<=n/\n<9223372036854775808:=by
  unfold Lit.wf at hn
  rw [Bool.and_eq_true,decide_eq_true_eq,decide_eq_true_eq] at hn
  have e1:IntKind.i64.min= -9223372036854775808:=by decide
  have e2:IntKind.i64.max=9223372036854775807:=by decide
  omega
 clear hn
 by_cases hs:600<t.size
 . have d:decide ((600:Int)<(t.size:Int))=true:=decide_eq_true (by omega)
   clear hs ht h1 h2
   go_enter Tryz.func10,Tryz.ntmps10
   go_wp2_with fail;refine (zb9 _).mono ?_;rintro e w2 ⟨rfl,hb2⟩;have HW:=ze hb2;clear hb2;go_wp2_with fail;go_ret;exact ⟨rfl,HW.out⟩
 have d:decide ((600:Int)<(t.size:Int))=false:=decide_eq_false (by omega)
 have hs6:t.size<=600:=by omega
 obtain ⟨l0,x0,P0,Q0⟩:∃ (l:List UInt8) (x:Int),Hid (∀ w,Calls Tryz.prog 43 #[.string t] w (znn w (l,x)))/\Hid (∀ w,Calls Tryz.prog 44 #[.string t] w (znn w (l,x))):=
  ⟨(zdv (bts t)).1,(zdv (bts t)).2,ze fun w=>zhl t w hs6,ze fun w=>zln t w hs6⟩
 obtain ⟨b1,P1,Q1⟩:∃ b:Bool,Hid (∀ w,Calls Tryz.prog 45 #[.string t] w (zdt w (.bool b)))/\Hid (∀ w,Calls Tryz.prog 46 #[.string t] w (zdt w (.bool b))):=
  ⟨(zp (bts t)).isSome,ze fun w=>zia t w (by omega),ze fun w=>zbu t w (by omega)⟩
 obtain ⟨l2,P2,Q2⟩:∃ l:List UInt8,Hid (∀ w,Calls Tryz.prog 47 #[.int .i64 n] w (Vq w l))/\Hid (∀ w v,zfc w v (n:Rat)->Calls Tryz.prog 48 #[v] w (Vq w l)):=
  ⟨zM (n:Rat),ze fun w=>zic n w h1 h2,ze fun w v hv=>Y2 v _ w hv (zad n (by omega))⟩
 have Q3:=ze fun w=>zgz n w h1 h2
 clear hs hs6 ht h1 h2
 go_enter Tryz.func10,Tryz.ntmps10
 go_wp2_with fail
 refine (P0.out _).mono ?_
 rintro e w1 ⟨rfl,hb1⟩
 have HW:=ze hb1
 clear hb1 P0
 go_wp2_with fail
 refine (Q0.out _).mono ?_
 rintro e w1 ⟨rfl,hb1⟩
 replace HW:=eb_ HW hb1
 clear hb1 Q0
 go_wp2_with fail
 refine (P1.out _).mono ?_
 rintro e w1 ⟨rfl,hb1⟩
 replace HW:=eb_ HW hb1
 clear hb1 P1
 go_wp2_with fail
 refine (Q1.out _).mono ?_
 rintro e w1 ⟨rfl,hb1⟩
 replace HW:=eb_ HW hb1
 clear hb1 Q1
 go_wp2_with fail
 refine (P2.out _).mono ?_
 rintro e w1 ⟨rfl,hb1⟩
 replace HW:=eb_ HW hb1
 clear hb1 P2
 go_wp2_with fail
 refine (Q3.out _).mono ?_
 rintro e w1 ⟨v3,rfl,hv3,hb1⟩
 replace HW:=eb_ HW hb1
 have HV:=ze hv3
 clear hb1 Q3 hv3
 go_wp2_with fail
 refine (Q2.out _ _ HV.out).mono ?_
 rintro e w1 ⟨rfl,hb1⟩
 replace HW:=eb_ HW hb1
 clear hb1 Q2 HV
 go_wp2_with fail
 refine (zb9 _).mono ?_
 rintro e w1 ⟨rfl,hb1⟩
 replace HW:=eb_ HW hb1
 clear hb1
 go_wp2_with fail
 go_ret
 exact ⟨rfl,HW.out⟩
end Go.Proofs.YtnpbflhjglkokaaGreatDoor
