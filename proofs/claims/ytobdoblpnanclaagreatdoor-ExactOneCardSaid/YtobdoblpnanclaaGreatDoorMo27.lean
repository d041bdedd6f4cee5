/- Parts of the proof. -/
import Derived.Test.YtobdoblpnanclaaGreatDoorMo16
import Derived.Test.YtobdoblpnanclaaGreatDoorMo26
set_option linter.all false
namespace Go.Proofs.YtobdoblpnanclaaGreatDoor
open Proofs.Tryz Go.RowKit Go.Deep
attribute [local go_sem ↓] Go.wp_at_zero Go.wp_at_succ
def ConR (w0:World) (n:Nat) (iv:Value) (wr:World):Prop:=∃ i:Nat,i<=n/\iv= .int .i64 i/\w0=wr
set_option maxRecDepth 100000 in
theorem zb5 (g:Nat) (l:List (List UInt8)) (v:List UInt8) (w:World) (hb:Blk w g 9 (l.map str).toArray) (hl:l.length<=1000000) (hne:∀ x∈l,x≠v):
 Calls prog 107 #[.slice (some ⟨g,0,none⟩) l.length l.length,str v] w (zaw w (.int .i64 (-1))):=by
 have m:=ze hb
 have j:=ze hne
 clear hb hne
 go_in
 go_wp2
 go_loopw [8] (ConR w l.length) (fun iv _=>l.length - (intOf iv).toNat)
 case atStart=>exact ⟨0,uB,rfl,rfl⟩
 case round=>
  obtain ⟨i,hi,rfl,rfl⟩:=hrel
  by_cases b:i<l.length
  rotate_left
  . obtain rfl:l.length=i:=by omega
    go_wp2;go_ret;exact ⟨rfl,rfl⟩
  have u:(i:Int)<(l.length:Int):=by omega
  have y:w.cell? ⟨g,i,none⟩=some (str l[i]):=by rw [m.o.cell];simp [b]
  have r:(v == l[i])=false:=by rw [beq_eq_false_iff_ne];exact fun e=>j.o _ (uO b) e.symm
  go_wp2;go_roundw
  case rel=>exact ⟨i+1,by omega,by go_num,rfl⟩
  case measure=>simp [intOf];omega
set_option maxRecDepth 100000 in
theorem zf2 (g:Nat) (l:List (List UInt8)) (v:List UInt8) (w:World) (hb:Blk w g 9 (l.map str).toArray) (hl:l.length<=1000000) (hne:∀ x∈l,x≠v):
 Calls prog 65 #[.slice (some ⟨g,0,none⟩) l.length l.length,str v] w (zaw w (.bool false)):=by
 have h:=zb5 g l v w hb hl hne
 clear hb hne
 go_in
 go_wp2_with fail
 refine h.mono ?_
 rintro e w' ⟨rfl,rfl⟩
 go_wp2
 go_ret
 exact ⟨rfl,rfl⟩
end Go.Proofs.YtobdoblpnanclaaGreatDoor
