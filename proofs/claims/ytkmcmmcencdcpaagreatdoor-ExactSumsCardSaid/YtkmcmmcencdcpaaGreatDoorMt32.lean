/- Parts of the proof: memory, numbers, walks of the functions that are called. -/
import Derived.Deep.LoopGhost
import Derived.Test.YtkmcmmcencdcpaaGreatDoorMt29
import Derived.Test.YtkmcmmcencdcpaaGreatDoorMt31
set_option linter.unusedVariables false
set_option linter.unusedSimpArgs false
namespace Go.Proofs.YtkmcmmcencdcpaaGreatDoor
open Go.RowKit Go.Deep
attribute [local go_sem ↓] Go.wp_at_zero Go.wp_at_succ
inductive YT (m L room:Nat) (but:Int):Nat->yy->yy->Nat->Prop
 | top (T:yy) (h:T.enter m but (L - 1)=0):YT m L room but 0 T T 0
 | free (T:yy) (c:Nat) (h0:0<c) (h:T.enter m but (L - 1)=c) (hl:T.leave room c m=none):YT m L room but 0 T T c
 | step (T U:yy) (c d r n:Nat) (h0:0<c) (h:T.enter m but (L - 1)=c) (hl:T.leave room c m=some r) (hf:(T.pivot r c).Fits m L) (hn:YT m L room but n (T.pivot r c) U d):YT m L room but (n+1) T U d
def zrm (base m L:Nat) (F:zS) (U:yy) (d:Nat) (w:World) (e:Ending) (w' :World):Prop:=e= .returned (.int .i64 (d:Nat))/\yb base m L F w' U/\Chg (F.S m) w w'
def zsq (base m L:Nat) (F:zS) (but:Int) (U:yy) (d:Nat) (w:World) (g:Nat) (wr:World):Prop:=
 ∃ V,Hid (YT m L (2*F.nn+m) but g V U d)/\Hid (yb base m L F wr V)/\Hid (V.Fits m L)/\Hid (Chg (F.S m) w wr)/\Hid (base<=wr.heap.size)
set_option maxRecDepth 100000 in
set_option maxHeartbeats 4000000 in
theorem ze6 (base m L:Nat) (F:zS) (T U:yy) (but:Int) (d n:Nat) (w:World) (hT:yb base m L F w T) (hf:T.Fits m L) (hn:YT m L (2*F.nn+m) but n T U d) (hm:m<=100000) (hL:L<=100000) (hb:base<=w.heap.size):
 Calls Tryz.prog 138 #[.pointer (some ⟨F.gt,0,none⟩),.int .i64 but] w (zrm base m L F U d w):=by
 have HR:Hid (zsq base m L F but U d w n w):=⟨T,hn,hT,hf,Chg.refl w,hb⟩
 clear hT hf hn hb
 go_enter Tryz.func138,Tryz.ntmps138
 go_wp2_with fail
 go_loopg [] n (fun g wr=>Hid (zsq base m L F but U d w g wr))
 case atStart=>exact HR
 case round=>
  clear HR
  obtain ⟨V,HC,HT,HF,HW,HB⟩:=hrel.out
  have hent:=zbt base m L F V but wr HT.out hm hL
  have hle:=V.enter_le m but (L - 1)
  have h2:=HT.out.lt2
  have hcl:=HC.out
  cases hcl with
  | top _ h=>
    rw [h] at hent;have HE:=ze hent;clear h hent hle h2 hrel HC;go_wp2_with fail;refine HE.out.mono ?_;rintro e w1 ⟨rfl,hb1⟩;replace HT:=ze (HT.out.below hb1);replace HW:Hid (Chg (F.S m) w w1):=HW.out.trans (Chg.of_below (S:=F.S m) hb1) (fun _ _ h=>h);clear hb1 HE;go_wp2_with fail;go_ret;exact ⟨by go_num,HT.out,HW.out⟩
  | free _ _ h0 h hl=>
    rw [h] at hent hle;have HE:=ze hent;have hlv:=fun w' (k:yb base m L F w' U)=>XP base m L F U d w' k HF.out (by omega) hm hL
    rw [hl] at hlv;have d1:((d:Int) == 0)=false:=by rw [beq_eq_false_iff_ne];omega
    have d2:decide (zf5 none<0)=true:=by decide
    have d3:zf5 none= -1:=rfl;clear h hent hle h2 hrel HC hl h0;go_wp2_with fail;refine HE.out.mono ?_;rintro e w1 ⟨rfl,hb1⟩;replace HT:=ze (HT.out.below hb1);replace HW:Hid (Chg (F.S m) w w1):=HW.out.trans (Chg.of_below (S:=F.S m) hb1) (fun _ _ h=>h);clear hb1 HE;go_wp2_with fail;refine (hlv _ HT.out).mono ?_;rintro e w2 ⟨rfl,hb1⟩;replace HT:=ze (HT.out.below hb1);replace HW:Hid (Chg (F.S m) w w2):=HW.out.trans (Chg.of_below (S:=F.S m) hb1) (fun _ _ h=>h);clear hb1 hlv;go_wp2_with fail;go_ret;exact ⟨by go_num,HT.out,HW.out⟩
  | step _ _ c _ r k h0 h hl hf hn=>
    rw [h] at hent hle;have HE:=ze hent;have hlv:=fun w' (k:yb base m L F w' V)=>XP base m L F V c w' k HF.out (by omega) hm hL
    rw [hl] at hlv;have hrl:=V.leave_lt (2*F.nn+m) c m r hl;have hpv:=fun w' (k:yb base m L F w' V) (hb:base<=w'.heap.size)=>zgp base m L F V r c w' k HF.out hrl.1 h0 (by omega) hm hL hb
    have HPV:=ze hpv;have HN:=ze hn;have HF2:=ze hf;have d1:((c:Int) == 0)=false:=by rw [beq_eq_false_iff_ne];omega
    have d2:decide ((r:Int)<0)=false:=by rw [decide_eq_false_iff_not];omega
    have d3:zf5 (some r)=(r:Int):=rfl;rw [d3] at hlv;clear h hent hle h2 hrel HC hl h0 hpv hn hf hrl d3;go_wp2_with fail;refine HE.out.mono ?_;rintro e w1 ⟨rfl,hb1⟩;replace HT:=ze (HT.out.below hb1);replace HB:=ze (Nat.le_trans HB.out hb1.size);replace HW:Hid (Chg (F.S m) w w1):=HW.out.trans (Chg.of_below (S:=F.S m) hb1) (fun _ _ h=>h);clear hb1 HE;go_wp2_with fail;refine (hlv _ HT.out).mono ?_;rintro e w2 ⟨rfl,hb1⟩;replace HT:=ze (HT.out.below hb1);replace HB:=ze (Nat.le_trans HB.out hb1.size);replace HW:Hid (Chg (F.S m) w w2):=HW.out.trans (Chg.of_below (S:=F.S m) hb1) (fun _ _ h=>h);clear hb1 hlv;go_wp2_with fail;refine (HPV.out _ HT.out HB.out).mono ?_;rintro e w3 ⟨rfl,hT3,hc3⟩;have HR3:Hid (zsq base m L F but U d w k w3):=⟨_,HN,hT3,HF2,HW.out.trans hc3 (fun _ _ h=>h),Nat.le_trans HB.out hc3.size⟩;clear hT3 hc3 HT HW HB HF;go_wp2_with fail;go_roundg k
    case rel=>exact HR3
    case measure=>omega
end Go.Proofs.YtkmcmmcencdcpaaGreatDoor
