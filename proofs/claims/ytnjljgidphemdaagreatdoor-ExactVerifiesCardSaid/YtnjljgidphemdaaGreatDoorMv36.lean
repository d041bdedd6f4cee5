/- Parts of the proof. -/
import Derived.Deep.LoopGhost
import Derived.Test.YtnjljgidphemdaaGreatDoorMv33
import Derived.Test.YtnjljgidphemdaaGreatDoorMv35
set_option linter.all false
namespace Go.Proofs.YtnjljgidphemdaaGreatDoor
open Proofs.Tryz Go.RowKit Go.Deep
attribute [local go_sem ↓] Go.wp_at_zero Go.wp_at_succ
inductive Vq (m L room:Nat) (but:Int):Nat->yE->yE->Nat->Prop
 | top (T:yE) (h:T.enter m but (L - 1)=0):Vq m L room but 0 T T 0
 | free (T:yE) (c:Nat) (h0:0<c) (h:T.enter m but (L - 1)=c) (hl:T.leave room c m=none):Vq m L room but 0 T T c
 | step (T U:yE) (c d r n:Nat) (h0:0<c) (h:T.enter m but (L - 1)=c) (hl:T.leave room c m=some r) (hf:(T.pivot r c).Fits m L) (hn:Vq m L room but n (T.pivot r c) U d):Vq m L room but (n+1) T U d
def zxq (base m L:Nat) (F:zZ) (U:yE) (d:Nat) (w:World) (e:Ending) (w' :World):Prop:=e= .returned (.int .i64 (d:Nat))/\yg base m L F w' U/\Chg (F.S m) w w'
def zzi (base m L:Nat) (F:zZ) (but:Int) (U:yE) (d:Nat) (w:World) (g:Nat) (wr:World):Prop:=
 ∃ V,Hid (Vq m L (2*F.nn+m) but g V U d)/\Hid (yg base m L F wr V)/\Hid (V.Fits m L)/\Hid (Chg (F.S m) w wr)/\Hid (base<=wr.heap.size)
set_option maxRecDepth 100000 in
set_option maxHeartbeats 4000000 in
theorem zhq (base m L:Nat) (F:zZ) (T U:yE) (but:Int) (d n:Nat) (w:World) (hT:yg base m L F w T) (hf:T.Fits m L) (hn:Vq m L (2*F.nn+m) but n T U d) (hm:m<=100000) (hL:L<=100000) (hb:base<=w.heap.size):
 Calls prog 90 #[.pointer (some ⟨F.gt,0,none⟩),.int .i64 but] w (zxq base m L F U d w):=by
 have M:Hid (zzi base m L F but U d w n w):=⟨T,hn,hT,hf,Chg.refl w,hb⟩
 clear hT hf hn hb
 go_in
 go_wp2
 go_loopg [] n (fun g wr=>Hid (zzi base m L F but U d w g wr))
 case atStart=>exact M
 case round=>
  clear M
  obtain ⟨V,G,j,E,l,B⟩:=hrel.out
  have u:=ze9 base m L F V but wr j.o hm hL
  have D:=V.enter_le m but (L - 1)
  have J:=j.o.lt2
  have ab:=G.o
  cases ab with
  | top _ h=>
    rw [h] at u;have z:=ze u;clear h u D J hrel G;go_wp2_with fail;refine z.o.mono ?_;rintro e C ⟨rfl,b⟩;replace j:=ze (j.o.below b);replace l:Hid (Chg (F.S m) w C):=l.o.trans (Chg.of_below (S:=F.S m) b) (fun _ _ h=>h);clear b z;go_wp2;go_ret;exact ⟨by go_num,j.o,l.o⟩
  | free _ _ h0 h hl=>
    rw [h] at u D;have z:=ze u;have y:=fun w' (k:yg base m L F w' U)=>za6 base m L F U d w' k E.o (by omega) hm hL
    rw [hl] at y;have Z:((d:Int) == 0)=false:=by rw [beq_eq_false_iff_ne];omega
    have R:decide (zkn none<0)=true:=by decide
    have I:zkn none= -1:=rfl;clear h u D J hrel G hl h0;go_wp2_with fail;refine z.o.mono ?_;rintro e C ⟨rfl,b⟩;replace j:=ze (j.o.below b);replace l:Hid (Chg (F.S m) w C):=l.o.trans (Chg.of_below (S:=F.S m) b) (fun _ _ h=>h);clear b z;go_wp2_with fail;refine (y _ j.o).mono ?_;rintro e w2 ⟨rfl,b⟩;replace j:=ze (j.o.below b);replace l:Hid (Chg (F.S m) w w2):=l.o.trans (Chg.of_below (S:=F.S m) b) (fun _ _ h=>h);clear b y;go_wp2;go_ret;exact ⟨by go_num,j.o,l.o⟩
  | step _ _ c _ r k h0 h hl hf hn=>
    rw [h] at u D;have z:=ze u;have y:=fun w' (k:yg base m L F w' V)=>za6 base m L F V c w' k E.o (by omega) hm hL
    rw [hl] at y;have N:=V.leave_lt (2*F.nn+m) c m r hl;have O:=fun w' (k:yg base m L F w' V) (hb:base<=w'.heap.size)=>zks base m L F V r c w' k E.o N.1 h0 (by omega) hm hL hb
    obtain ⟨X,HN,aa⟩:=hz3 O hn hf;have Z:((c:Int) == 0)=false:=by rw [beq_eq_false_iff_ne];omega
    have R:decide ((r:Int)<0)=false:=by rw [decide_eq_false_iff_not];omega
    have I:zkn (some r)=(r:Int):=rfl;rw [I] at y;clear h u D J hrel G hl h0 O hn hf N I;go_wp2_with fail;refine z.o.mono ?_;rintro e C ⟨rfl,b⟩;replace j:=ze (j.o.below b);replace B:=ze (uC B.o b.size);replace l:Hid (Chg (F.S m) w C):=l.o.trans (Chg.of_below (S:=F.S m) b) (fun _ _ h=>h);clear b z;go_wp2_with fail;refine (y _ j.o).mono ?_;rintro e w2 ⟨rfl,b⟩;replace j:=ze (j.o.below b);replace B:=ze (uC B.o b.size);replace l:Hid (Chg (F.S m) w w2):=l.o.trans (Chg.of_below (S:=F.S m) b) (fun _ _ h=>h);clear b y;go_wp2_with fail;refine (X.o _ j.o B.o).mono ?_;rintro e w3 ⟨rfl,Q,K⟩;have Y:Hid (zzi base m L F but U d w k w3):=⟨_,HN,Q,aa,l.o.trans K (fun _ _ h=>h),uC B.o K.size⟩;clear Q K j l B E;go_wp2;go_roundg k
    case rel=>exact Y
    case measure=>omega
end Go.Proofs.YtnjljgidphemdaaGreatDoor
