/- Parts of the proof. -/
import Derived.Deep.LoopGhost
import Derived.Test.YtofmkndhocinmaaGreatDoorMs32
import Derived.Test.YtofmkndhocinmaaGreatDoorMs34
set_option linter.all false
namespace Go.Proofs.YtofmkndhocinmaaGreatDoor
open Proofs.Tryz Go.RowKit Go.Deep
attribute [local go_sem ↓] Go.wp_at_zero Go.wp_at_succ
inductive Xj (m L room:Nat) (but:Int):Nat->y8->y8->Nat->Prop
 | top (T:y8) (h:T.enter m but (L - 1)=0):Xj m L room but 0 T T 0
 | free (T:y8) (c:Nat) (h0:0<c) (h:T.enter m but (L - 1)=c) (hl:T.leave room c m=none):Xj m L room but 0 T T c
 | step (T U:y8) (c d r n:Nat) (h0:0<c) (h:T.enter m but (L - 1)=c) (hl:T.leave room c m=some r) (hf:(T.pivot r c).Fits m L) (hn:Xj m L room but n (T.pivot r c) U d):Xj m L room but (n+1) T U d
def ztu (base m L:Nat) (F:zN) (U:y8) (d:Nat) (w:World) (e:Ending) (w' :World):Prop:=e= .returned (.int .i64 (d:Nat))/\zX base m L F w' U/\Chg (F.S m) w w'
def zvm (base m L:Nat) (F:zN) (but:Int) (U:y8) (d:Nat) (w:World) (g:Nat) (wr:World):Prop:=
 ∃ V,Hid (Xj m L (2*F.nn+m) but g V U d)/\Hid (zX base m L F wr V)/\Hid (V.Fits m L)/\Hid (Chg (F.S m) w wr)/\Hid (base<=wr.heap.size)
set_option maxRecDepth 100000 in
set_option maxHeartbeats 4000000 in
theorem zex (base m L:Nat) (F:zN) (T U:y8) (but:Int) (d n:Nat) (w:World) (hT:zX base m L F w T) (hf:T.Fits m L) (hn:Xj m L (2*F.nn+m) but n T U d) (hm:m<=100000) (hL:L<=100000) (hb:base<=w.heap.size):
 Calls prog 75 #[.pointer (some ⟨F.gt,0,none⟩),.int .i64 but] w (ztu base m L F U d w):=by
 have M:Hid (zvm base m L F but U d w n w):=⟨T,hn,hT,hf,Chg.refl w,hb⟩
 clear hT hf hn hb
 go_in
 go_wp2
 go_loopg [] n (fun g wr=>Hid (zvm base m L F but U d w g wr))
 case atStart=>exact M
 case round=>
  clear M
  obtain ⟨V,E,j,D,l,B⟩:=hrel.out
  have u:=zcy base m L F V but wr j.o hm hL
  have C:=V.enter_le m but (L - 1)
  have I:=j.o.lt2
  have aa:=E.o
  cases aa with
  | top _ h=>
    rw [h] at u;have z:=ze u;clear h u C I hrel E;go_wp2_with fail;refine z.o.mono ?_;rintro e w1 ⟨rfl,b⟩;replace j:=ze (j.o.below b);replace l:Hid (Chg (F.S m) w w1):=l.o.trans (Chg.of_below (S:=F.S m) b) (fun _ _ h=>h);clear b z;go_wp2;go_ret;exact ⟨by go_num,j.o,l.o⟩
  | free _ _ h0 h hl=>
    rw [h] at u C;have z:=ze u;have y:=fun w' (k:zX base m L F w' U)=>Vk base m L F U d w' k D.o (by omega) hm hL
    rw [hl] at y;have d1:((d:Int) == 0)=false:=by rw [beq_eq_false_iff_ne];omega
    have R:decide (zhh none<0)=true:=by decide
    have G:zhh none= -1:=rfl;clear h u C I hrel E hl h0;go_wp2_with fail;refine z.o.mono ?_;rintro e w1 ⟨rfl,b⟩;replace j:=ze (j.o.below b);replace l:Hid (Chg (F.S m) w w1):=l.o.trans (Chg.of_below (S:=F.S m) b) (fun _ _ h=>h);clear b z;go_wp2_with fail;refine (y _ j.o).mono ?_;rintro e J ⟨rfl,b⟩;replace j:=ze (j.o.below b);replace l:Hid (Chg (F.S m) w J):=l.o.trans (Chg.of_below (S:=F.S m) b) (fun _ _ h=>h);clear b y;go_wp2;go_ret;exact ⟨by go_num,j.o,l.o⟩
  | step _ _ c _ r k h0 h hl hf hn=>
    rw [h] at u C;have z:=ze u;have y:=fun w' (k:zX base m L F w' V)=>Vk base m L F V c w' k D.o (by omega) hm hL
    rw [hl] at y;have N:=V.leave_lt (2*F.nn+m) c m r hl;have O:=fun w' (k:zX base m L F w' V) (hb:base<=w'.heap.size)=>zhl base m L F V r c w' k D.o N.1 h0 (by omega) hm hL hb
    obtain ⟨X,HN,Z⟩:=hz3 O hn hf;have d1:((c:Int) == 0)=false:=by rw [beq_eq_false_iff_ne];omega
    have R:decide ((r:Int)<0)=false:=by rw [decide_eq_false_iff_not];omega
    have G:zhh (some r)=(r:Int):=rfl;rw [G] at y;clear h u C I hrel E hl h0 O hn hf N G;go_wp2_with fail;refine z.o.mono ?_;rintro e w1 ⟨rfl,b⟩;replace j:=ze (j.o.below b);replace B:=ze (uC B.o b.size);replace l:Hid (Chg (F.S m) w w1):=l.o.trans (Chg.of_below (S:=F.S m) b) (fun _ _ h=>h);clear b z;go_wp2_with fail;refine (y _ j.o).mono ?_;rintro e J ⟨rfl,b⟩;replace j:=ze (j.o.below b);replace B:=ze (uC B.o b.size);replace l:Hid (Chg (F.S m) w J):=l.o.trans (Chg.of_below (S:=F.S m) b) (fun _ _ h=>h);clear b y;go_wp2_with fail;refine (X.o _ j.o B.o).mono ?_;rintro e w3 ⟨rfl,Q,K⟩;have Y:Hid (zvm base m L F but U d w k w3):=⟨_,HN,Q,Z,l.o.trans K (fun _ _ h=>h),uC B.o K.size⟩;clear Q K j l B D;go_wp2;go_roundg k
    case rel=>exact Y
    case measure=>omega
end Go.Proofs.YtofmkndhocinmaaGreatDoor
