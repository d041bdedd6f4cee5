/- Parts of the proof. -/
import Derived.Test.YtofmkndhocinmaaGreatDoorMs37
import Derived.Test.YtofmkndhocinmaaGreatDoorMs38
set_option linter.all false
namespace Go.Proofs.YtofmkndhocinmaaGreatDoor
open Proofs.Tryz Go.RowKit Go.Deep
attribute [local go_sem ↓] Go.wp_at_zero Go.wp_at_succ
set_option maxRecDepth 100000 in
set_option maxHeartbeats 8000000 in
theorem ZT (w:World):Calls prog 6 #[] w (zij w (.bool true)):=by
 have C:=fun w=>zrk ⟨#[49,47,50]⟩ ⟨#[49,47,51]⟩ w (by decide) (by decide)
 have e0:op2 (· + ·) (bts ⟨#[49,47,50]⟩) (bts ⟨#[49,47,51]⟩)=([53,47,54],0):=zu0
 simp only [e0] at C
 have L:=fun w=>zhk zrb zlo vp [120] w zr2 znf
 have G:=ze C
 have M:=ze L
 clear C L e0
 go_in
 go_wp2_with fail
 refine (G.o _).mono ?_
 rintro e w1 ⟨rfl,N⟩
 have b:=ze N
 clear N G
 go_wp2_with fail
 refine (M.o _).mono ?_
 rintro e l ⟨A,c,rfl,I,K⟩
 replace b:=eb_ b K
 have Q:=ze I
 clear K I M
 have j:=zf l (.cells #[.string ⟨#[120]⟩,.string ⟨#[50]⟩] 38)
 have J:zZ (l.alloc (.cells #[.string ⟨#[120]⟩,.string ⟨#[50]⟩] 38)) (.slice (some ⟨l.heap.size,0,none⟩) 1 1) xd:=
  ⟨some ⟨l.heap.size,0,none⟩,1,rfl,uA,by unfold maxLen;omega,by decide,⟨rfl,fun _=>⟨_,rfl,by simp,Z3⟩⟩,fun x j=>by obtain rfl:=List.mem_singleton.1 j;exact ⟨by unfold zB;decide,by unfold zB;decide⟩⟩
 have F:=zg3 vp.length c 1 1 1 A (some ⟨l.heap.size,0,none⟩) vp xd [120] exU 6 _ ((zW.below Q.o j).more j.size) J znf zr3 zvg zpc (Zu (by decide) (by decide) (by omega)) zop zkb
 have D:=ze F
 replace b:=eb_ b j
 clear F J j
 go_wp2_with fail
 refine D.o.mono ?_
 rintro e w3 ⟨r,B,z,n1,c1,n2,c2,m,u,rfl,O⟩
 rw [zvi]
 replace b:=eb_ b O
 clear O D
 have j:=zf w3 (.cells #[.int .u8 1,str [54],.slice r n1 c1,.slice B n2 c2,.slice z m u] 51)
 have E:=Blk.new w3 51 #[.int .u8 1,str [54],.slice r n1 c1,.slice B n2 c2,.slice z m u]
 have y:=ze E
 replace b:=eb_ b j
 clear j E
 go_upto_region 4 with fail
 generalize w3.alloc (.cells #[.int .u8 1,str [54],.slice r n1 c1,.slice B n2 c2,.slice z m u] 51)=W4 at b y |-
 generalize w3.heap.size=g at y |-
 obtain ⟨r0,R,_⟩:=bq2 y
 go_wp2
 go_ret
 exact ⟨rfl,b.o⟩
end Go.Proofs.YtofmkndhocinmaaGreatDoor
