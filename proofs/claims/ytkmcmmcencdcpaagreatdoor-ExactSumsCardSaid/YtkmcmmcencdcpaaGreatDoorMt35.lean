/- Parts of the proof: memory, numbers, walks of the functions that are called. -/
import Derived.Test.YtkmcmmcencdcpaaGreatDoorMt17
import Derived.Test.YtkmcmmcencdcpaaGreatDoorMt34
set_option linter.unusedVariables false
set_option linter.unusedSimpArgs false
namespace Go.Proofs.YtkmcmmcencdcpaaGreatDoor
open Go.RowKit Go.Deep
attribute [local go_sem ↓] Go.wp_at_zero Go.wp_at_succ
def ConR (w0:World) (n:Nat) (iv:Value) (wr:World):Prop:=∃ i:Nat,i<=n/\iv= .int .i64 i/\w0=wr
set_option maxRecDepth 100000 in
theorem za5 (g:Nat) (l:List (List UInt8)) (v:List UInt8) (w:World) (hb:Blk w g 9 (l.map str).toArray) (hl:l.length<=1000000) (hne:∀ x∈l,x≠v):
 Calls Tryz.prog 146 #[.slice (some ⟨g,0,none⟩) l.length l.length,str v] w (Vd w (.int .i64 (-1))):=by
 have HB:=ze hb
 have HNE:=ze hne
 clear hb hne
 go_enter Tryz.func146,Tryz.ntmps146
 go_wp2_with fail
 go_loopw [8] (ConR w l.length) (fun iv _=>l.length - (intOf iv).toNat)
 case atStart=>exact ⟨0,Nat.zero_le _,rfl,rfl⟩
 case round=>
  obtain ⟨i,hi,rfl,rfl⟩:=hrel
  by_cases hil:i<l.length
  . have hii:(i:Int)<(l.length:Int):=by omega
    have c1:w.cell? ⟨g,i,none⟩=some (str l[i]):=by rw [HB.out.cell];simp [hil]
    have d1:(v == l[i])=false:=by rw [beq_eq_false_iff_ne];exact fun e=>HNE.out _ (List.getElem_mem hil) e.symm
    go_wp2_with fail;go_roundw
    case rel=>exact ⟨i+1,by omega,by go_num,rfl⟩
    case measure=>simp [intOf];omega
  . obtain rfl:l.length=i:=by omega
    go_wp2_with fail;go_ret;exact ⟨rfl,rfl⟩
set_option maxRecDepth 100000 in
theorem zcq (g:Nat) (l:List (List UInt8)) (v:List UInt8) (w:World) (hb:Blk w g 9 (l.map str).toArray) (hl:l.length<=1000000) (hne:∀ x∈l,x≠v):
 Calls Tryz.prog 84 #[.slice (some ⟨g,0,none⟩) l.length l.length,str v] w (Vd w (.bool false)):=by
 have h:=za5 g l v w hb hl hne
 clear hb hne
 go_enter Tryz.func84,Tryz.ntmps84
 go_wp2_with fail
 refine h.mono ?_
 rintro e w' ⟨rfl,rfl⟩
 go_wp2_with fail
 go_ret
 exact ⟨rfl,rfl⟩
end Go.Proofs.YtkmcmmcencdcpaaGreatDoor
