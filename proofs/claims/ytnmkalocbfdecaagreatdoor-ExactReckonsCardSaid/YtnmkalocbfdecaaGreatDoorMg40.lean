/- Parts of the proof: memory, numbers, walks of the functions that are called. -/
import Derived.Test.YtnmkalocbfdecaaGreatDoorMg38
import Derived.Test.YtnmkalocbfdecaaGreatDoorMg39
set_option linter.unusedVariables false
set_option linter.unusedSimpArgs false
set_option maxHeartbeats 32000000
namespace Go.Proofs.YtnmkalocbfdecaaGreatDoor
open Go.RowKit Go.Deep
attribute [local go_sem ↓] Go.wp_at_zero Go.wp_at_succ
set_option maxRecDepth 100000 in
theorem zc2 (w:World):Calls Tryz.prog 8 #[] w (zaq w (.bool true)):=by
 have had:=fun w=>zdx ⟨#[49,47,50]⟩ ⟨#[49,47,51]⟩ w (by decide) (by decide)
 have e0:op2 (· + ·) (bts ⟨#[49,47,50]⟩) (bts ⟨#[49,47,51]⟩)=([53,47,54],0):=zoy
 simp only [e0] at had
 have hpa:=fun w=>zdy zl1 zin xF [120] w zmi zi6
 have HAD:=ze had
 have HPA:=ze hpa
 clear had hpa e0
 go_enter Tryz.func8,Tryz.ntmps8
 go_wp2_with fail
 refine (HAD.out _).mono ?_
 rintro e w1 ⟨rfl,hb1⟩
 have HW:=ze hb1
 clear hb1 HAD
 go_wp2_with fail
 refine (HPA.out _).mono ?_
 rintro e w2 ⟨A,c,rfl,hr,hb2⟩
 replace HW:=eb_ HW hb2
 have HR:=ze hr
 clear hb2 hr HPA
 have hx:=zf w2 (.cells #[.string ⟨#[120]⟩,.string ⟨#[50]⟩] 57)
 have hgo:vO (w2.alloc (.cells #[.string ⟨#[120]⟩,.string ⟨#[50]⟩] 57)) (.slice (some ⟨w2.heap.size,0,none⟩) 1 1) yH:=
  ⟨some ⟨w2.heap.size,0,none⟩,1,rfl,Nat.le_refl _,by unfold maxLen;omega,by decide,⟨rfl,fun _=>⟨_,rfl,by simp,zcd⟩⟩,fun x hx=>by obtain rfl:=List.mem_singleton.1 hx;exact ⟨by unfold yT;decide,by unfold yT;decide⟩⟩
 have hsl:=zes xF.length c 1 1 1 A (some ⟨w2.heap.size,0,none⟩) xF yH [120] exU 6 _ ((yh.below HR.out hx).more hx.size) hgo zi6 znx zqc zkc (vI (by decide) (by decide) (by omega)) zlc zgz
 have HSL:=ze hsl
 replace HW:=eb_ HW hx
 clear hsl hgo hx
 go_wp2_with fail
 refine HSL.out.mono ?_
 rintro e w3 ⟨A1,A2,A3,n1,c1,n2,c2,n3,c3,rfl,hb3⟩
 rw [zp9]
 replace HW:=eb_ HW hb3
 clear hb3 HSL
 have hx:=zf w3 (.cells #[.int .u8 1,str [54],.slice A1 n1 c1,.slice A2 n2 c2,.slice A3 n3 c3] 53)
 have hk:=Blk.new w3 53 #[.int .u8 1,str [54],.slice A1 n1 c1,.slice A2 n2 c2,.slice A3 n3 c3]
 have HK:=ze hk
 replace HW:=eb_ HW hx
 clear hx hk
 go_upto_region 4 with fail
 generalize w3.alloc (.cells #[.int .u8 1,str [54],.slice A1 n1 c1,.slice A2 n2 c2,.slice A3 n3 c3] 53)=W4 at HW HK |-
 generalize w3.heap.size=g at HK |-
 have r0:=HK.out.cell 0
 have r1:=HK.out.cell 1
 simp at r0 r1
 go_wp2_with fail
 go_ret
 exact ⟨rfl,HW.out⟩
theorem zks (a b:ByteArray) (W:World) (g:Nat) (hk:Blk W g 22 #[.string a,.string b]) (ha:a.size<=reachBytes) (hb:b.size<=reachBytes):
 Calls Tryz.prog 7 #[.slice (some ⟨g,0,none⟩) 2 2] W (X3 W (.bool (decide (600<a.size+b.size)))):=by
 have h:=zlb g 2 [a,b] W (fun i hi=>by
  match i,hi with
  | 0,_=>simpa using hk.cell 0
  | 1,_=>simpa using hk.cell 1) (by simp) (fun s hs=>by
  simp at hs
  rcases hs with rfl | rfl
  . exact ha
  . exact hb)
 have e:tot [a,b] [a,b].length=a.size+b.size:=rfl
 rw [e] at h
 exact h
set_option maxRecDepth 100000 in
theorem zfa (a b:ByteArray) (w:World) (ha:a.size<=reachBytes) (hb:b.size<=reachBytes):
 Calls Tryz.prog 3 #[.string a,.string b] w (zaq w (.bool true)):=by
 have hx:=zf w (.cells #[.string a,.string b] 22)
 have hlong:=zks a b _ _ (Blk.new w 22 #[.string a,.string b]) ha hb
 by_cases hs:600<a.size+b.size
 . rw [decide_eq_true hs] at hlong
   have HL:=ze hlong;have HW:=ze hx;clear hlong hs hx ha hb
   go_enter Tryz.func3,Tryz.ntmps3
   go_wp2_with fail;refine HL.out.mono ?_;rintro e w1 ⟨rfl,rfl⟩;go_wp2_with fail;refine (zc2 _).mono ?_;rintro e w2 ⟨rfl,hb2⟩;replace HW:=eb_ HW hb2;clear hb2;go_wp2_with fail;go_ret;exact ⟨rfl,HW.out⟩
 rw [decide_eq_false hs] at hlong
 have ha2:a.size<=1073741824:=by omega
 have hb2:b.size<=1073741824:=by omega
 have HL:=ze hlong
 have HW:=ze hx
 clear hlong hs hx ha hb
 obtain ⟨l0,x0,P0,Q0⟩:∃ (l:List UInt8) (x:Int),Hid (∀ w,Calls Tryz.prog 9 #[.string a,.string b] w (YF w (l,x)))/\Hid (∀ w,Calls Tryz.prog 10 #[.string a,.string b] w (YF w (l,x))):=
  ⟨(op2 (· + ·) (bts a) (bts b)).1,(op2 (· + ·) (bts a) (bts b)).2,ze fun w=>zdx a b w ha2 hb2,ze fun w=>zmx a b w ha2 hb2⟩
 obtain ⟨l1,x1,P1,Q1⟩:∃ (l:List UInt8) (x:Int),Hid (∀ w,Calls Tryz.prog 11 #[.string a,.string b] w (YF w (l,x)))/\Hid (∀ w,Calls Tryz.prog 12 #[.string a,.string b] w (YF w (l,x))):=
  ⟨(op2 (· - ·) (bts a) (bts b)).1,(op2 (· - ·) (bts a) (bts b)).2,ze fun w=>zna a b w ha2 hb2,ze fun w=>zn1 a b w ha2 hb2⟩
 obtain ⟨l2,x2,P2,Q2⟩:∃ (l:List UInt8) (x:Int),Hid (∀ w,Calls Tryz.prog 13 #[.string a,.string b] w (YF w (l,x)))/\Hid (∀ w,Calls Tryz.prog 14 #[.string a,.string b] w (YF w (l,x))):=
  ⟨(op2 (· * ·) (bts a) (bts b)).1,(op2 (· * ·) (bts a) (bts b)).2,ze fun w=>zoc a b w ha2 hb2,ze fun w=>zm2 a b w ha2 hb2⟩
 obtain ⟨l3,x3,P3,Q3⟩:∃ (l:List UInt8) (x:Int),Hid (∀ w,Calls Tryz.prog 15 #[.string a,.string b] w (YF w (l,x)))/\Hid (∀ w,Calls Tryz.prog 16 #[.string a,.string b] w (YF w (l,x))):=
  ⟨(zhn (bts a) (bts b)).1,(zhn (bts a) (bts b)).2,ze fun w=>zm8 a b w ha2 hb2,ze fun w=>zni a b w ha2 hb2⟩
 obtain ⟨l4,x4,P4,Q4⟩:∃ (l:Int) (x:Int),Hid (∀ w,Calls Tryz.prog 17 #[.string a,.string b] w (zj8 w (l,x)))/\Hid (∀ w,Calls Tryz.prog 18 #[.string a,.string b] w (zj8 w (l,x))):=
  ⟨(zhl (bts a) (bts b)).1,(zhl (bts a) (bts b)).2,ze fun w=>znm a b w ha2 hb2,ze fun w=>zmn a b w ha2 hb2⟩
 obtain ⟨l5,x5,P5,Q5⟩:∃ (l:List UInt8) (x:Int),Hid (∀ w,Calls Tryz.prog 19 #[.string a] w (YF w (l,x)))/\Hid (∀ w,Calls Tryz.prog 20 #[.string a] w (YF w (l,x))):=
  ⟨(op2 (· - ·) [48] (bts a)).1,(op2 (· - ·) [48] (bts a)).2,ze fun w=>zm4 a w ha2,ze fun w=>zm0 a w ha2⟩
 obtain ⟨l6,x6,P6,Q6⟩:∃ (l:List UInt8) (x:Int),Hid (∀ w,Calls Tryz.prog 21 #[.string a] w (YF w (l,x)))/\Hid (∀ w,Calls Tryz.prog 22 #[.string a] w (YF w (l,x))):=
  ⟨(Ym (bts a)).1,(Ym (bts a)).2,ze fun w=>zjx a w ha2,ze fun w=>zhy a w ha2⟩
 clear ha2 hb2
 go_enter Tryz.func3,Tryz.ntmps3
 go_wp2_with fail
 refine HL.out.mono ?_
 rintro e w1 ⟨rfl,rfl⟩
 clear HL
 generalize w.alloc (.cells #[.string a,.string b] 22)=W at HW |-
 go_wp2_with fail
 refine (P0.out _).mono ?_
 rintro e w1 ⟨rfl,hb1⟩
 replace HW:=eb_ HW hb1
 clear hb1 P0
 go_wp2_with fail
 refine (Q0.out _).mono ?_
 rintro e w1 ⟨rfl,hb1⟩
 replace HW:=eb_ HW hb1
 clear hb1 Q0
 go_wp2_with fail
 refine (P1.out _).mono ?_
 rintro e w1 ⟨rfl,hb1⟩
 replace HW:=eb_ HW hb1
 clear hb1 P1
 go_wp2_with fail
 refine (Q1.out _).mono ?_
 rintro e w1 ⟨rfl,hb1⟩
 replace HW:=eb_ HW hb1
 clear hb1 Q1
 go_wp2_with fail
 refine (P2.out _).mono ?_
 rintro e w1 ⟨rfl,hb1⟩
 replace HW:=eb_ HW hb1
 clear hb1 P2
 go_wp2_with fail
 refine (Q2.out _).mono ?_
 rintro e w1 ⟨rfl,hb1⟩
 replace HW:=eb_ HW hb1
 clear hb1 Q2
 go_wp2_with fail
 refine (P3.out _).mono ?_
 rintro e w1 ⟨rfl,hb1⟩
 replace HW:=eb_ HW hb1
 clear hb1 P3
 go_wp2_with fail
 refine (Q3.out _).mono ?_
 rintro e w1 ⟨rfl,hb1⟩
 replace HW:=eb_ HW hb1
 clear hb1 Q3
 go_wp2_with fail
 refine (P4.out _).mono ?_
 rintro e w1 ⟨rfl,hb1⟩
 replace HW:=eb_ HW hb1
 clear hb1 P4
 go_wp2_with fail
 refine (Q4.out _).mono ?_
 rintro e w1 ⟨rfl,hb1⟩
 replace HW:=eb_ HW hb1
 clear hb1 Q4
 go_wp2_with fail
 refine (P5.out _).mono ?_
 rintro e w1 ⟨rfl,hb1⟩
 replace HW:=eb_ HW hb1
 clear hb1 P5
 go_wp2_with fail
 refine (Q5.out _).mono ?_
 rintro e w1 ⟨rfl,hb1⟩
 replace HW:=eb_ HW hb1
 clear hb1 Q5
 go_wp2_with fail
 refine (P6.out _).mono ?_
 rintro e w1 ⟨rfl,hb1⟩
 replace HW:=eb_ HW hb1
 clear hb1 P6
 go_wp2_with fail
 refine (Q6.out _).mono ?_
 rintro e w1 ⟨rfl,hb1⟩
 replace HW:=eb_ HW hb1
 clear hb1 Q6
 go_wp2_with fail
 refine (zc2 _).mono ?_
 rintro e w1 ⟨rfl,hb1⟩
 replace HW:=eb_ HW hb1
 clear hb1
 go_wp2_with fail
 go_ret
 exact ⟨rfl,HW.out⟩
end Go.Proofs.YtnmkalocbfdecaaGreatDoor
