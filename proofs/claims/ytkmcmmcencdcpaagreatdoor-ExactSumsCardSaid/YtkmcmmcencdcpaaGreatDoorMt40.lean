/- Parts of the proof: memory, numbers, walks of the functions that are called. -/
import Derived.Test.YtkmcmmcencdcpaaGreatDoorMt38
import Derived.Test.YtkmcmmcencdcpaaGreatDoorMt39
set_option linter.unusedVariables false
set_option linter.unusedSimpArgs false
namespace Go.Proofs.YtkmcmmcencdcpaaGreatDoor
open Go.RowKit Go.Deep
attribute [local go_sem ↓] Go.wp_at_zero Go.wp_at_succ
set_option maxRecDepth 100000 in
set_option maxHeartbeats 8000000 in
theorem XY (w:World):Calls Tryz.prog 9 #[] w (Vc w (.bool true)):=by
 have had:=fun w=>zph ⟨#[49,47,50]⟩ ⟨#[49,47,51]⟩ w (by decide) (by decide)
 have e0:op2 (· + ·) (bts ⟨#[49,47,50]⟩) (bts ⟨#[49,47,51]⟩)=([53,47,54],0):=zq7
 simp only [e0] at had
 have hpa:=fun w=>zfm zow zk8 vi [120] w zpk zj5
 have HAD:=ze had
 have HPA:=ze hpa
 clear had hpa e0
 go_enter Tryz.func9,Tryz.ntmps9
 go_wp2_with fail
 refine (HAD.out _).mono ?_
 rintro e w1 ⟨rfl,hb1⟩
 have HW:=ze hb1
 clear hb1 HAD
 go_wp2_with fail
 refine (HPA.out _).mono ?_
 rintro e w2 ⟨A,c,rfl,hr,hb2⟩
 replace HW:=eb_ HW hb2
 have HR:=ze hr
 clear hb2 hr HPA
 have hx:=zf w2 (.cells #[.string ⟨#[120]⟩,.string ⟨#[50]⟩] 60)
 have hgo:ya (w2.alloc (.cells #[.string ⟨#[120]⟩,.string ⟨#[50]⟩] 60)) (.slice (some ⟨w2.heap.size,0,none⟩) 1 1) xe:=
  ⟨some ⟨w2.heap.size,0,none⟩,1,rfl,Nat.le_refl _,by unfold maxLen;omega,by decide,⟨rfl,fun _=>⟨_,rfl,by simp,zfd⟩⟩,fun x hx=>by obtain rfl:=List.mem_singleton.1 hx;exact ⟨by unfold yo;decide,by unfold yo;decide⟩⟩
 have hsl:=zfx vi.length c 1 1 1 A (some ⟨w2.heap.size,0,none⟩) vi xe [120] exU 6 _ ((zV.below HR.out hx).more hx.size) hgo zj5 zqx zsz znl (Zf (by decide) (by decide) (by omega)) zoc zir
 have HSL:=ze hsl
 replace HW:=eb_ HW hx
 clear hsl hgo hx
 go_wp2_with fail
 refine HSL.out.mono ?_
 rintro e w3 ⟨A1,A2,A3,n1,c1,n2,c2,n3,c3,rfl,hb3⟩
 rw [zsx]
 replace HW:=eb_ HW hb3
 clear hb3 HSL
 have hx:=zf w3 (.cells #[.int .u8 1,str [54],.slice A1 n1 c1,.slice A2 n2 c2,.slice A3 n3 c3] 47)
 have hk:=Blk.new w3 47 #[.int .u8 1,str [54],.slice A1 n1 c1,.slice A2 n2 c2,.slice A3 n3 c3]
 have HK:=ze hk
 replace HW:=eb_ HW hx
 clear hx hk
 go_upto_region 4 with fail
 generalize w3.alloc (.cells #[.int .u8 1,str [54],.slice A1 n1 c1,.slice A2 n2 c2,.slice A3 n3 c3] 47)=W4 at HW HK |-
 generalize w3.heap.size=g at HK |-
 have r0:=HK.out.cell 0
 have r1:=HK.out.cell 1
 simp at r0 r1
 go_wp2_with fail
 go_ret
 exact ⟨rfl,HW.out⟩
end Go.Proofs.YtkmcmmcencdcpaaGreatDoor
