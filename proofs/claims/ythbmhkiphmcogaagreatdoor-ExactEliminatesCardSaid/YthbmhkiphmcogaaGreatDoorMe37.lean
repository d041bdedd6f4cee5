/- Parts of the proof. -/
import Derived.Deep.LoopGhost
import Derived.Test.YthbmhkiphmcogaaGreatDoorMe34
import Derived.Test.YthbmhkiphmcogaaGreatDoorMe36
set_option linter.all false
namespace Go.Proofs.YthbmhkiphmcogaaGreatDoor
open Proofs.Tryz Go.RowKit Go.Deep
attribute [local go_sem ↓] Go.wp_at_zero Go.wp_at_succ
inductive Vm (m L room:Nat) (but:Int):Nat->yE->yE->Nat->Prop
 | top (T:yE) (h:T.enter m but (L - 1)=0):Vm m L room but 0 T T 0
 | free (T:yE) (c:Nat) (h0:0<c) (h:T.enter m but (L - 1)=c) (hl:T.leave room c m=none):Vm m L room but 0 T T c
 | step (T U:yE) (c d r n:Nat) (h0:0<c) (h:T.enter m but (L - 1)=c) (hl:T.leave room c m=some r) (hf:(T.pivot r c).Fits m L) (hn:Vm m L room but n (T.pivot r c) U d):Vm m L room but (n+1) T U d
def zv5 (base m L:Nat) (F:ya) (U:yE) (d:Nat) (w:World) (e:Ending) (w' :World):Prop:=e= .returned (.int .i64 (d:Nat))/\yi base m L F w' U/\Chg (F.S m) w w'
def zx8 (base m L:Nat) (F:ya) (but:Int) (U:yE) (d:Nat) (w:World) (g:Nat) (wr:World):Prop:=
 ∃ V,Hid (Vm m L (2*F.nn+m) but g V U d)/\Hid (yi base m L F wr V)/\Hid (V.Fits m L)/\Hid (Chg (F.S m) w wr)/\Hid (base<=wr.heap.size)
set_option maxRecDepth 100000 in
set_option maxHeartbeats 4000000 in
theorem zgw (base m L:Nat) (F:ya) (T U:yE) (but:Int) (d n:Nat) (w:World) (hT:yi base m L F w T) (hf:T.Fits m L) (hn:Vm m L (2*F.nn+m) but n T U d) (hm:m<=100000) (hL:L<=100000) (hb:base<=w.heap.size):
 Calls Tryz.prog 65 #[.pointer (some ⟨F.gt,0,none⟩),.int .i64 but] w (zv5 base m L F U d w):=by
 have Q:Hid (zx8 base m L F but U d w n w):=⟨T,hn,hT,hf,Chg.refl w,hb⟩
 clear hT hf hn hb
 go_enter func65,ntmps65
 go_wp2_with fail
 go_loopg [] n (fun g wr=>Hid (zx8 base m L F but U d w g wr))
 case atStart=>exact Q
 case round=>
  clear Q
  obtain ⟨V,D,j,E,l,B⟩:=hrel.out
  have u:=zek base m L F V but wr j.o hm hL
  have C:=V.enter_le m but (L - 1)
  have G:=j.o.lt2
  have X:=D.o
  cases X with
  | top _ h=>
    rw [h] at u;have z:=ze u;clear h u C G hrel D;go_wp2_with fail;refine z.o.mono ?_;rintro e w1 ⟨rfl,b⟩;replace j:=ze (j.o.below b);replace l:Hid (Chg (F.S m) w w1):=l.o.trans (Chg.of_below (S:=F.S m) b) (fun _ _ h=>h);clear b z;go_wp2_with fail;go_ret;exact ⟨by go_num,j.o,l.o⟩
  | free _ _ h0 h hl=>
    rw [h] at u C;have z:=ze u;have y:=fun w' (k:yi base m L F w' U)=>zao base m L F U d w' k E.o (by omega) hm hL
    rw [hl] at y;have d1:((d:Int) == 0)=false:=by rw [beq_eq_false_iff_ne];omega
    have Y:decide (ziz none<0)=true:=by decide
    have J:ziz none= -1:=rfl;clear h u C G hrel D hl h0;go_wp2_with fail;refine z.o.mono ?_;rintro e w1 ⟨rfl,b⟩;replace j:=ze (j.o.below b);replace l:Hid (Chg (F.S m) w w1):=l.o.trans (Chg.of_below (S:=F.S m) b) (fun _ _ h=>h);clear b z;go_wp2_with fail;refine (y _ j.o).mono ?_;rintro e K ⟨rfl,b⟩;replace j:=ze (j.o.below b);replace l:Hid (Chg (F.S m) w K):=l.o.trans (Chg.of_below (S:=F.S m) b) (fun _ _ h=>h);clear b y;go_wp2_with fail;go_ret;exact ⟨by go_num,j.o,l.o⟩
  | step _ _ c _ r k h0 h hl hf hn=>
    rw [h] at u C;have z:=ze u;have y:=fun w' (k:yi base m L F w' V)=>zao base m L F V c w' k E.o (by omega) hm hL
    rw [hl] at y;have O:=V.leave_lt (2*F.nn+m) c m r hl;have M:=fun w' (k:yi base m L F w' V) (hb:base<=w'.heap.size)=>zj2 base m L F V r c w' k E.o O.1 h0 (by omega) hm hL hb
    have R:=ze M;have Z:=ze hn;have ab:=ze hf;have d1:((c:Int) == 0)=false:=by rw [beq_eq_false_iff_ne];omega
    have Y:decide ((r:Int)<0)=false:=by rw [decide_eq_false_iff_not];omega
    have J:ziz (some r)=(r:Int):=rfl;rw [J] at y;clear h u C G hrel D hl h0 M hn hf O J;go_wp2_with fail;refine z.o.mono ?_;rintro e w1 ⟨rfl,b⟩;replace j:=ze (j.o.below b);replace B:=ze (Nat.le_trans B.o b.size);replace l:Hid (Chg (F.S m) w w1):=l.o.trans (Chg.of_below (S:=F.S m) b) (fun _ _ h=>h);clear b z;go_wp2_with fail;refine (y _ j.o).mono ?_;rintro e K ⟨rfl,b⟩;replace j:=ze (j.o.below b);replace B:=ze (Nat.le_trans B.o b.size);replace l:Hid (Chg (F.S m) w K):=l.o.trans (Chg.of_below (S:=F.S m) b) (fun _ _ h=>h);clear b y;go_wp2_with fail;refine (R.o _ j.o B.o).mono ?_;rintro e w3 ⟨rfl,N,I⟩;have aa:Hid (zx8 base m L F but U d w k w3):=⟨_,Z,N,ab,l.o.trans I (fun _ _ h=>h),Nat.le_trans B.o I.size⟩;clear N I j l B E;go_wp2_with fail;go_roundg k
    case rel=>exact aa
    case measure=>omega
end Go.Proofs.YthbmhkiphmcogaaGreatDoor
