/- Parts of the proof. -/
import Derived.Test.YthbmhkiphmcogaaGreatDoorMe40
import Derived.Test.YthbmhkiphmcogaaGreatDoorMe41
set_option linter.all false
namespace Go.Proofs.YthbmhkiphmcogaaGreatDoor
open Proofs.Tryz Go.RowKit Go.Deep
attribute [local go_sem ↓] Go.wp_at_zero Go.wp_at_succ
set_option maxRecDepth 100000 in
set_option maxHeartbeats 8000000 in
theorem zda (w:World):Calls Tryz.prog 5 #[] w (zfq w (.bool true)):=by
 have C:=fun w=>zu5 ⟨#[49,47,50]⟩ ⟨#[49,47,51]⟩ w (by decide) (by decide)
 have J:op2 (· + ·) (bts ⟨#[49,47,50]⟩) (bts ⟨#[49,47,51]⟩)=([53,47,54],0):=zwx
 simp only [J] at C
 have G:=fun w=>zka ztf zqs Za [120] w zua zo6
 have K:=ze C
 have O:=ze G
 clear C G J
 go_enter func5,ntmps5
 go_wp2_with fail
 refine (K.o _).mono ?_
 rintro e w1 ⟨rfl,E⟩
 have b:=ze E
 clear E K
 go_wp2_with fail
 refine (O.o _).mono ?_
 rintro e l ⟨A,c,rfl,D,M⟩
 replace b:=eb_ b M
 have S:=ze D
 clear M D O
 have j:=zf l (.cells #[.string ⟨#[120]⟩,.string ⟨#[50]⟩] 35)
 have L:vr (l.alloc (.cells #[.string ⟨#[120]⟩,.string ⟨#[50]⟩] 35)) (.slice (some ⟨l.heap.size,0,none⟩) 1 1) xE:=
  ⟨some ⟨l.heap.size,0,none⟩,1,rfl,Nat.le_refl _,by unfold maxLen;omega,by decide,⟨rfl,fun _=>⟨_,rfl,by simp,ZI⟩⟩,fun x j=>by obtain rfl:=List.mem_singleton.1 j;exact ⟨by unfold zN;decide,by unfold zN;decide⟩⟩
 have N:=zki Za.length c 1 1 1 A (some ⟨l.heap.size,0,none⟩) Za xE [120] exU 6 _ ((zT.below S.o j).more j.size) L zo6 zu6 zx6 zsp (ZV (by decide) (by decide) (by omega)) zsj zml
 have F:=ze N
 replace b:=eb_ b j
 clear N L j
 go_wp2_with fail
 refine F.o.mono ?_
 rintro e w3 ⟨y,B,u,n1,c1,n2,c2,z,r,rfl,Q⟩
 rw [zx1]
 replace b:=eb_ b Q
 clear Q F
 have j:=zf w3 (.cells #[.int .u8 1,str [54],.slice y n1 c1,.slice B n2 c2,.slice u z r] 44)
 have I:=Blk.new w3 44 #[.int .u8 1,str [54],.slice y n1 c1,.slice B n2 c2,.slice u z r]
 have m:=ze I
 replace b:=eb_ b j
 clear j I
 go_upto_region 4 with fail
 generalize w3.alloc (.cells #[.int .u8 1,str [54],.slice y n1 c1,.slice B n2 c2,.slice u z r] 44)=W4 at b m |-
 generalize w3.heap.size=g at m |-
 have R:=m.o.cell 0
 have T:=m.o.cell 1
 simp at R T
 go_wp2_with fail
 go_ret
 exact ⟨rfl,b.o⟩
end Go.Proofs.YthbmhkiphmcogaaGreatDoor
