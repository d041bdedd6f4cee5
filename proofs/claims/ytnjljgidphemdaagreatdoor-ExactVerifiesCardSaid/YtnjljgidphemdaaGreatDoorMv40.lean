/- Parts of the proof. -/
import Derived.Test.YtnjljgidphemdaaGreatDoorMv38
import Derived.Test.YtnjljgidphemdaaGreatDoorMv39
set_option linter.all false
namespace Go.Proofs.YtnjljgidphemdaaGreatDoor
open Proofs.Tryz Go.RowKit Go.Deep
attribute [local go_sem ↓] Go.wp_at_zero Go.wp_at_succ
set_option maxRecDepth 100000 in
set_option maxHeartbeats 8000000 in
theorem zau (w:World):Calls prog 7 #[] w (VE w (.bool true)):=by
 have m:=fun w=>zvj ⟨#[49,47,50]⟩ ⟨#[49,47,51]⟩ w (by decide) (by decide)
 have F:op2 (· + ·) (bts ⟨#[49,47,50]⟩) (bts ⟨#[49,47,51]⟩)=([53,47,54],0):=zyr
 simp only [F] at m
 have O:=fun w=>zkr zu9 zo9 vQ [120] w zvw zq2
 have K:=ze m
 have Q:=ze O
 clear m O F
 go_in
 go_wp2_with fail
 refine (K.o _).mono ?_
 rintro e U ⟨rfl,R⟩
 have b:=ze R
 clear R K
 go_wp2_with fail
 refine (Q.o _).mono ?_
 rintro e w2 ⟨A,c,rfl,L,N⟩
 replace b:=eb_ b N
 have T:=ze L
 clear N L Q
 have j:=zf w2 (.cells #[.string ⟨#[120]⟩,.string ⟨#[50]⟩] 45)
 have M:zV (w2.alloc (.cells #[.string ⟨#[120]⟩,.string ⟨#[50]⟩] 45)) (.slice (some ⟨w2.heap.size,0,none⟩) 1 1) x8:=
  ⟨some ⟨w2.heap.size,0,none⟩,1,rfl,uA,by unfold maxLen;omega,by decide,⟨rfl,fun _=>⟨_,rfl,by simp,ze0⟩⟩,fun x j=>by obtain rfl:=List.mem_singleton.1 j;exact ⟨by unfold zS;decide,by unfold zS;decide⟩⟩
 have J:=zj5 vQ.length c 1 1 1 A (some ⟨w2.heap.size,0,none⟩) vQ x8 [120] exU 6 _ ((zH.below T.o j).more j.size) M zq2 zvx zzb ztd (ZE (by decide) (by decide) (by omega)) zso zns
 have G:=ze J
 replace b:=eb_ b j
 clear J M j
 go_wp2_with fail
 refine G.o.mono ?_
 rintro e w3 ⟨r,D,C,n1,u,E,y,l,z,rfl,S⟩
 rw [zzd]
 replace b:=eb_ b S
 clear S G
 have j:=zf w3 (.cells #[.int .u8 1,str [54],.slice r n1 u,.slice D E y,.slice C l z] 29)
 have I:=Blk.new w3 29 #[.int .u8 1,str [54],.slice r n1 u,.slice D E y,.slice C l z]
 have B:=ze I
 replace b:=eb_ b j
 clear j I
 go_upto_region 4 with fail
 generalize w3.alloc (.cells #[.int .u8 1,str [54],.slice r n1 u,.slice D E y,.slice C l z] 29)=W4 at b B |-
 generalize w3.heap.size=g at B |-
 obtain ⟨r0,V,_⟩:=bq2 B
 go_wp2
 go_ret
 exact ⟨rfl,b.o⟩
end Go.Proofs.YtnjljgidphemdaaGreatDoor
