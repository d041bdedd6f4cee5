/- The walk of lives: the chapter's example. · The walk of the law ExactArithmetic; PRINTED by gen_ari.py. -/
import Derived.Test.YtnmkalocbfdecaaGreatDoorMg36
import Derived.Test.YtnmkalocbfdecaaGreatDoorMg37
set_option linter.unusedVariables false
set_option linter.unusedSimpArgs false
namespace Go.Proofs.YtnmkalocbfdecaaGreatDoor
open Go.RowKit Go.Deep
attribute [local go_sem ↓] Go.wp_at_zero Go.wp_at_succ
set_option maxRecDepth 100000 in
set_option maxHeartbeats 8000000 in
theorem law_lives (w:World):Calls Tryz.prog 8 #[] w (RetB w (.bool true)):=by
 have had:=fun w=>Add_any ⟨#[49,47,50]⟩ ⟨#[49,47,51]⟩ w (by decide) (by decide)
 have e0:op2 (· + ·) (bts ⟨#[49,47,50]⟩) (bts ⟨#[49,47,51]⟩)=([53,47,54],0):=ex_sum
 simp only [e0] at had
 have hpa:=fun w=>exact_Parse exText exLines exRows [120] w ex_text ex_rows
 have HAD:=hide had
 have HPA:=hide hpa
 clear had hpa e0
 go_enter Tryz.func8,Tryz.ntmps8
 go_wp2_with fail
 refine (HAD.out _).mono ?_
 rintro e w1 ⟨rfl,hb1⟩
 have HW:=hide hb1
 clear hb1 HAD
 go_wp2_with fail
 refine (HPA.out _).mono ?_
 rintro e w2 ⟨A,c,rfl,hr,hb2⟩
 replace HW:=hide (ext HW.out hb2)
 have HR:=hide hr
 clear hb2 hr HPA
 have hx:=ext_alloc w2 (.cells #[.string ⟨#[120]⟩,.string ⟨#[50]⟩] 57)
 have hgo:EtermsIs (w2.alloc (.cells #[.string ⟨#[120]⟩,.string ⟨#[50]⟩] 57)) (.slice (some ⟨w2.heap.size,0,none⟩) 1 1) exGoal:=
  ⟨some ⟨w2.heap.size,0,none⟩,1,rfl,Nat.le_refl _,by unfold maxLen;omega,by decide,⟨rfl,fun _=>⟨_,rfl,by simp,cells_two⟩⟩,fun x hx=>by obtain rfl:=List.mem_singleton.1 hx;exact ⟨by unfold SmallT;decide,by unfold SmallT;decide⟩⟩
 have hsl:=exact_Solve exRows.length c 1 1 1 A (some ⟨w2.heap.size,0,none⟩) exRows exGoal [120] exU 6 _ ((ErowsAt.below HR.out hx).more hx.size) hgo ex_rows ex_goal ex_ok ex_value (rlen_small (by decide) (by decide) (by omega)) ex_point ex_weights
 have HSL:=hide hsl
 replace HW:=hide (ext HW.out hx)
 clear hsl hgo hx
 go_wp2_with fail
 refine HSL.out.mono ?_
 rintro e w3 ⟨A1,A2,A3,n1,c1,n2,c2,n3,c3,rfl,hb3⟩
 rw [text6]
 replace HW:=hide (ext HW.out hb3)
 clear hb3 HSL
 have hx:=ext_alloc w3 (.cells #[.int .u8 1,str [54],.slice A1 n1 c1,.slice A2 n2 c2,.slice A3 n3 c3] 53)
 have hk:=Blk.new w3 53 #[.int .u8 1,str [54],.slice A1 n1 c1,.slice A2 n2 c2,.slice A3 n3 c3]
 have HK:=hide hk
 replace HW:=hide (ext HW.out hx)
 clear hx hk
 go_upto_region 4 with fail
 generalize w3.alloc (.cells #[.int .u8 1,str [54],.slice A1 n1 c1,.slice A2 n2 c2,.slice A3 n3 c3] 53)=W4 at HW HK ⊢
 generalize w3.heap.size=g at HK ⊢
 have r0:=HK.out.cell 0
 have r1:=HK.out.cell 1
 simp at r0 r1
 go_wp2_with fail
 go_ret
 exact ⟨rfl,HW.out⟩
end Go.Proofs.YtnmkalocbfdecaaGreatDoor
namespace Go.Proofs.YtnmkalocbfdecaaGreatDoor
open Go.RowKit Go.Deep
attribute [local go_sem ↓] Go.wp_at_zero Go.wp_at_succ
theorem valid_is (s:ByteArray) (v:Bool) (hs:s.size ≤ 200) (hv:(readFrac (bts s)).isSome=v):Hid (∀ w,Calls Tryz.prog 23 #[.string s] w (RetB w (.bool v))):=
 hide fun w=>by rw [← hv];exact valid_any s w (by omega)
theorem text_zero {q:Rat}:((txt q).toList == [48])=decide (q=0):=by
 rw [toList_one,bts_txt]
 have h:([48]:List UInt8)=fracText 0:=by
  have h1:bts ⟨#[48]⟩=[48]:=rfl
  rw [← h1,zero_txt,bts_txt]
 rw [h]
 by_cases h0:q=0
 · rw [h0];simp
 · rw [decide_eq_false h0,decide_eq_false (fun e=>h0 (fracText_inj e))]
theorem text_ne {p q:Rat} (h:p≠q):((txt p).toList == (txt q).toList)=false:=by
 rw [Lib.toList_data,Lib.toList_data]
 show (bts (txt p) == bts (txt q))=false
 rw [bts_txt,bts_txt]
 exact beq_eq_false_iff_ne.2 (fun e=>h (fracText_inj e))
theorem sum_one {e:Nat} (x:Rat) (hx:Dz e x) (h:e+2<50000) (w:World):
 Calls Tryz.prog 24 #[.string (txt x),.string ⟨#[49]⟩] w (RetB w (.string (txt (x+1)))):=by
 rw [one_txt]
 exact sum_txt x 1 (x+1) hx (Dz.one 1) rfl (by omega) w
theorem cmp_two (x y:Rat) (hx:Dz 200 x) (hy:Dz 200 y):∃ ab ba:Int,
 Hid (∀ w,Calls Tryz.prog 17 #[.string (txt x),.string (txt y)] w (RetNo w ab)) ∧
 Hid (∀ w,Calls Tryz.prog 17 #[.string (txt y),.string (txt x)] w (RetNo w ba)) ∧
 ((ab= -1 ∧ ba=1 ∧ x≠y) ∨ (ab=0 ∧ ba=0 ∧ x=y) ∨ (ab=1 ∧ ba= -1 ∧ x≠y)):=by
 refine ⟨_,_,hide (Cmp_txt x y hx hy (by omega) (by omega)),hide (Cmp_txt y x hy hx (by omega) (by omega)),?_⟩
 unfold cmpQ
 by_cases h1:x<y
 · rw [if_pos h1,if_neg (by grind),if_pos h1];exact .inl ⟨rfl,rfl,by grind⟩
 · by_cases h2:y<x
   · rw [if_neg h1,if_pos h2,if_pos h2];exact .inr (.inr ⟨rfl,rfl,by grind⟩)
   · rw [if_neg h1,if_neg h2,if_neg h2,if_neg h1];exact .inr (.inl ⟨rfl,rfl,by grind⟩)
theorem cmp_low (x:Rat) (hx:Dz 200 x):∃ lo:Int,Hid (∀ w,Calls Tryz.prog 17 #[.string (txt (flr x)),.string (txt x)] w (RetNo w lo)) ∧ lo ≤ 0 ∧ decide (lo ≤ 0)=true:=by
 have h:cmpQ (flr x) x ≤ 0:=by
  have:=(flr_le x).1
  unfold cmpQ
  split
  · omega
  · rw [if_neg (by grind)];omega
 exact ⟨_,hide (Cmp_txt (flr x) x (flr_sz hx) hx (by omega) (by omega)),h,decide_eq_true h⟩
theorem cmp_high (x:Rat) (hx:Dz 200 x):∃ hi:Int,Hid (∀ w,Calls Tryz.prog 17 #[.string (txt (flr x+1)),.string (txt x)] w (RetNo w hi)) ∧ 0<hi ∧ decide (0<hi)=true:=by
 have h:0<cmpQ (flr x+1) x:=by
  have:=(flr_le x).2
  unfold cmpQ
  rw [if_neg (by grind),if_pos (by grind)];omega
 exact ⟨_,hide (Cmp_txt (flr x+1) x (Dz.add (flr_sz hx) (Dz.one 1) (Nat.le_refl _)) hx (by omega) (by omega)),h,decide_eq_true h⟩
set_option maxRecDepth 100000 in
set_option maxHeartbeats 8000000 in
theorem arith_long0 (a b c:ByteArray) (w:World) (h0:decide ((200:Int)<(a.size:Int))=true):Calls Tryz.prog 4 #[.string a,.string b,.string c] w (RetB w (.bool true)):=by
 go_enter Tryz.func4,Tryz.ntmps4
 go_wp2_with fail
 refine (law_lives _).mono ?_
 rintro e w1 ⟨rfl,hb1⟩
 have HW:=hide hb1
 clear hb1
 go_wp2_with fail
 go_ret
 exact ⟨rfl,HW.out⟩
set_option maxRecDepth 100000 in
set_option maxHeartbeats 8000000 in
theorem arith_long1 (a b c:ByteArray) (w:World) (h0:decide ((200:Int)<(a.size:Int))=false) (h1:decide ((200:Int)<(b.size:Int))=true):Calls Tryz.prog 4 #[.string a,.string b,.string c] w (RetB w (.bool true)):=by
 go_enter Tryz.func4,Tryz.ntmps4
 go_wp2_with fail
 refine (law_lives _).mono ?_
 rintro e w1 ⟨rfl,hb1⟩
 have HW:=hide hb1
 clear hb1
 go_wp2_with fail
 go_ret
 exact ⟨rfl,HW.out⟩
set_option maxRecDepth 100000 in
set_option maxHeartbeats 8000000 in
theorem arith_long2 (a b c:ByteArray) (w:World) (h0:decide ((200:Int)<(a.size:Int))=false) (h1:decide ((200:Int)<(b.size:Int))=false) (h2:decide ((200:Int)<(c.size:Int))=true):Calls Tryz.prog 4 #[.string a,.string b,.string c] w (RetB w (.bool true)):=by
 go_enter Tryz.func4,Tryz.ntmps4
 go_wp2_with fail
 refine (law_lives _).mono ?_
 rintro e w1 ⟨rfl,hb1⟩
 have HW:=hide hb1
 clear hb1
 go_wp2_with fail
 go_ret
 exact ⟨rfl,HW.out⟩
set_option maxRecDepth 100000 in
set_option maxHeartbeats 8000000 in
theorem arith_bad0 (a b c:ByteArray) (w:World) (h0:decide ((200:Int)<(a.size:Int))=false) (h1:decide ((200:Int)<(b.size:Int))=false) (h2:decide ((200:Int)<(c.size:Int))=false) (v0:Hid (∀ w,Calls Tryz.prog 23 #[.string a] w (RetB w (.bool false)))):Calls Tryz.prog 4 #[.string a,.string b,.string c] w (RetB w (.bool true)):=by
 go_enter Tryz.func4,Tryz.ntmps4
 go_wp2_with fail
 refine (v0.out _).mono ?_
 rintro e w1 ⟨rfl,hb1⟩
 have HW:=hide hb1
 clear hb1
 go_wp2_with fail
 refine (law_lives _).mono ?_
 rintro e w1 ⟨rfl,hb1⟩
 replace HW:=hide (ext HW.out hb1)
 clear hb1
 go_wp2_with fail
 go_ret
 exact ⟨rfl,HW.out⟩
set_option maxRecDepth 100000 in
set_option maxHeartbeats 8000000 in
theorem arith_bad1 (a b c:ByteArray) (w:World) (h0:decide ((200:Int)<(a.size:Int))=false) (h1:decide ((200:Int)<(b.size:Int))=false) (h2:decide ((200:Int)<(c.size:Int))=false) (v0:Hid (∀ w,Calls Tryz.prog 23 #[.string a] w (RetB w (.bool true)))) (v1:Hid (∀ w,Calls Tryz.prog 23 #[.string b] w (RetB w (.bool false)))):Calls Tryz.prog 4 #[.string a,.string b,.string c] w (RetB w (.bool true)):=by
 go_enter Tryz.func4,Tryz.ntmps4
 go_wp2_with fail
 refine (v0.out _).mono ?_
 rintro e w1 ⟨rfl,hb1⟩
 have HW:=hide hb1
 clear hb1
 go_wp2_with fail
 refine (v1.out _).mono ?_
 rintro e w1 ⟨rfl,hb1⟩
 replace HW:=hide (ext HW.out hb1)
 clear hb1
 go_wp2_with fail
 refine (law_lives _).mono ?_
 rintro e w1 ⟨rfl,hb1⟩
 replace HW:=hide (ext HW.out hb1)
 clear hb1
 go_wp2_with fail
 go_ret
 exact ⟨rfl,HW.out⟩
set_option maxRecDepth 100000 in
set_option maxHeartbeats 8000000 in
theorem arith_bad2 (a b c:ByteArray) (w:World) (h0:decide ((200:Int)<(a.size:Int))=false) (h1:decide ((200:Int)<(b.size:Int))=false) (h2:decide ((200:Int)<(c.size:Int))=false) (v0:Hid (∀ w,Calls Tryz.prog 23 #[.string a] w (RetB w (.bool true)))) (v1:Hid (∀ w,Calls Tryz.prog 23 #[.string b] w (RetB w (.bool true)))) (v2:Hid (∀ w,Calls Tryz.prog 23 #[.string c] w (RetB w (.bool false)))):Calls Tryz.prog 4 #[.string a,.string b,.string c] w (RetB w (.bool true)):=by
 go_enter Tryz.func4,Tryz.ntmps4
 go_wp2_with fail
 refine (v0.out _).mono ?_
 rintro e w1 ⟨rfl,hb1⟩
 have HW:=hide hb1
 clear hb1
 go_wp2_with fail
 refine (v1.out _).mono ?_
 rintro e w1 ⟨rfl,hb1⟩
 replace HW:=hide (ext HW.out hb1)
 clear hb1
 go_wp2_with fail
 refine (v2.out _).mono ?_
 rintro e w1 ⟨rfl,hb1⟩
 replace HW:=hide (ext HW.out hb1)
 clear hb1
 go_wp2_with fail
 refine (law_lives _).mono ?_
 rintro e w1 ⟨rfl,hb1⟩
 replace HW:=hide (ext HW.out hb1)
 clear hb1
 go_wp2_with fail
 go_ret
 exact ⟨rfl,HW.out⟩
set_option maxRecDepth 100000 in
set_option maxHeartbeats 8000000 in
theorem arith_main (x y z:Rat) (w:World) (hx:Dz 200 x) (hy:Dz 200 y) (hz:Dz 200 z)
 (h0:decide ((200:Int)<((txt x).size:Int))=false) (h1:decide ((200:Int)<((txt y).size:Int))=false) (h2:decide ((200:Int)<((txt z).size:Int))=false):
 Calls Tryz.prog 4 #[.string (txt x),.string (txt y),.string (txt z)] w (RetB w (.bool true)):=by
 have sxy:Dz 401 (x+y):=Dz.add hx hy (by omega)
 have syz:Dz 401 (y+z):=Dz.add hy hz (by omega)
 have pxy:Dz 400 (x*y):=Dz.mul hx hy (by omega)
 have pyz:Dz 400 (y*z):=Dz.mul hy hz (by omega)
 have pxz:Dz 400 (x*z):=Dz.mul hx hz (by omega)
 go_enter Tryz.func4,Tryz.ntmps4
 go_wp2_with fail
 refine (Valid_txt x hx (by omega) _).mono ?_
 rintro e w1 ⟨rfl,hb1⟩
 have HW:=hide hb1
 clear hb1
 go_wp2_with fail
 refine (Valid_txt y hy (by omega) _).mono ?_
 rintro e w1 ⟨rfl,hb1⟩
 replace HW:=hide (ext HW.out hb1)
 clear hb1
 go_wp2_with fail
 refine (Valid_txt z hz (by omega) _).mono ?_
 rintro e w1 ⟨rfl,hb1⟩
 replace HW:=hide (ext HW.out hb1)
 clear hb1
 go_wp2_with fail
 refine (sum_txt x y (x+y) hx hy rfl (by omega) _).mono ?_
 rintro e w1 ⟨rfl,hb1⟩
 replace HW:=hide (ext HW.out hb1)
 clear hb1
 go_wp2_with fail
 refine (sum_txt y x (x+y) hy hx (by grind) (by omega) _).mono ?_
 rintro e w1 ⟨rfl,hb1⟩
 replace HW:=hide (ext HW.out hb1)
 clear hb1
 go_wp2_with fail
 refine (product_txt x y (x*y) hx hy rfl (by omega) _).mono ?_
 rintro e w1 ⟨rfl,hb1⟩
 replace HW:=hide (ext HW.out hb1)
 clear hb1
 go_wp2_with fail
 refine (product_txt y x (x*y) hy hx (by grind) (by omega) _).mono ?_
 rintro e w1 ⟨rfl,hb1⟩
 replace HW:=hide (ext HW.out hb1)
 clear hb1
 go_wp2_with fail
 refine (sum_txt x y (x+y) hx hy rfl (by omega) _).mono ?_
 rintro e w1 ⟨rfl,hb1⟩
 replace HW:=hide (ext HW.out hb1)
 clear hb1
 go_wp2_with fail
 refine (sum_txt (x+y) z (x+y+z) sxy hz rfl (by omega) _).mono ?_
 rintro e w1 ⟨rfl,hb1⟩
 replace HW:=hide (ext HW.out hb1)
 clear hb1
 go_wp2_with fail
 refine (sum_txt y z (y+z) hy hz rfl (by omega) _).mono ?_
 rintro e w1 ⟨rfl,hb1⟩
 replace HW:=hide (ext HW.out hb1)
 clear hb1
 go_wp2_with fail
 refine (sum_txt x (y+z) (x+y+z) hx syz (by grind) (by omega) _).mono ?_
 rintro e w1 ⟨rfl,hb1⟩
 replace HW:=hide (ext HW.out hb1)
 clear hb1
 go_wp2_with fail
 refine (product_txt x y (x*y) hx hy rfl (by omega) _).mono ?_
 rintro e w1 ⟨rfl,hb1⟩
 replace HW:=hide (ext HW.out hb1)
 clear hb1
 go_wp2_with fail
 refine (product_txt (x*y) z (x*y*z) pxy hz rfl (by omega) _).mono ?_
 rintro e w1 ⟨rfl,hb1⟩
 replace HW:=hide (ext HW.out hb1)
 clear hb1
 go_wp2_with fail
 refine (product_txt y z (y*z) hy hz rfl (by omega) _).mono ?_
 rintro e w1 ⟨rfl,hb1⟩
 replace HW:=hide (ext HW.out hb1)
 clear hb1
 go_wp2_with fail
 refine (product_txt x (y*z) (x*y*z) hx pyz (by grind) (by omega) _).mono ?_
 rintro e w1 ⟨rfl,hb1⟩
 replace HW:=hide (ext HW.out hb1)
 clear hb1
 go_wp2_with fail
 refine (sum_txt y z (y+z) hy hz rfl (by omega) _).mono ?_
 rintro e w1 ⟨rfl,hb1⟩
 replace HW:=hide (ext HW.out hb1)
 clear hb1
 go_wp2_with fail
 refine (product_txt x (y+z) (x*(y+z)) hx syz rfl (by omega) _).mono ?_
 rintro e w1 ⟨rfl,hb1⟩
 replace HW:=hide (ext HW.out hb1)
 clear hb1
 go_wp2_with fail
 refine (product_txt x y (x*y) hx hy rfl (by omega) _).mono ?_
 rintro e w1 ⟨rfl,hb1⟩
 replace HW:=hide (ext HW.out hb1)
 clear hb1
 go_wp2_with fail
 refine (product_txt x z (x*z) hx hz rfl (by omega) _).mono ?_
 rintro e w1 ⟨rfl,hb1⟩
 replace HW:=hide (ext HW.out hb1)
 clear hb1
 go_wp2_with fail
 refine (sum_txt (x*y) (x*z) (x*(y+z)) pxy pxz (by grind) (by omega) _).mono ?_
 rintro e w1 ⟨rfl,hb1⟩
 replace HW:=hide (ext HW.out hb1)
 clear hb1
 go_wp2_with fail
 refine (sum_txt x y (x+y) hx hy rfl (by omega) _).mono ?_
 rintro e w1 ⟨rfl,hb1⟩
 replace HW:=hide (ext HW.out hb1)
 clear hb1
 go_wp2_with fail
 refine (Valid_txt (x+y) sxy (by omega) _).mono ?_
 rintro e w1 ⟨rfl,hb1⟩
 replace HW:=hide (ext HW.out hb1)
 clear hb1
 go_wp2_with fail
 refine (sum_txt x y (x+y) hx hy rfl (by omega) _).mono ?_
 rintro e w1 ⟨rfl,hb1⟩
 replace HW:=hide (ext HW.out hb1)
 clear hb1
 go_wp2_with fail
 refine (Sub_txt (x+y) y x sxy hy (by grind) (by omega) _).mono ?_
 rintro e w1 ⟨rfl,hb1⟩
 replace HW:=hide (ext HW.out hb1)
 clear hb1
 go_upto_if 131 with fail
 have z1:=text_zero (q:=y)
 go_cut [] from 22 (fun wc=>Hid (Below w.heap.size w wc))
 case first=>
  by_cases hy0:y=0
  · rw [decide_eq_true hy0] at z1
    clear hy0
    rw [z1]
    go_wp2_with fail
    go_meet
    case rel=>exact HW
  · rw [decide_eq_false hy0] at z1
    have hd:x*y / y=x:=Rat.mul_div_cancel hy0
    have HY0:=hide hy0
    have HD:=hide hd
    clear hy0 hd
    rw [z1]
    go_wp2_with fail
    refine (product_txt x y (x*y) hx hy rfl (by omega) _).mono ?_
    rintro e w2 ⟨rfl,hb1⟩
    replace HW:=hide (ext HW.out hb1)
    clear hb1
    go_wp2_with fail
    refine (Div_txt (x*y) y x pxy hy HY0.out HD.out hx (by omega) (by omega) (by omega) _).mono ?_
    rintro e w3 ⟨rfl,hb1⟩
    replace HW:=hide (ext HW.out hb1)
    clear hb1
    go_wp2_with fail
    go_meet
    case rel=>exact HW
 case rest=>
 have HW:=hcut
 clear hcut z1
 obtain ⟨lo,HLO,hlo,hlo2⟩:=cmp_low x hx
 obtain ⟨hi,HHI,hhi,hhi2⟩:=cmp_high x hx
 have z0:((txt 0).toList == [48])=true:=by rw [text_zero];rfl
 go_wp2_with fail
 refine (Floor_txt x hx (by omega) _).mono ?_
 rintro e w1 ⟨rfl,hb1⟩
 replace HW:=hide (ext HW.out hb1)
 clear hb1
 go_wp2_with fail
 refine (HLO.out _).mono ?_
 rintro e w1 ⟨rfl,hb1⟩
 replace HW:=hide (ext HW.out hb1)
 clear hb1
 go_wp2_with fail
 refine (sum_one (flr x) (flr_sz hx) (by omega) _).mono ?_
 rintro e w1 ⟨rfl,hb1⟩
 replace HW:=hide (ext HW.out hb1)
 clear hb1
 go_wp2_with fail
 refine (HHI.out _).mono ?_
 rintro e w1 ⟨rfl,hb1⟩
 replace HW:=hide (ext HW.out hb1)
 clear hb1
 go_wp2_with fail
 refine (Neg_txt x hx (by omega) _).mono ?_
 rintro e w1 ⟨rfl,hb1⟩
 replace HW:=hide (ext HW.out hb1)
 clear hb1
 obtain ⟨ab,ba,HAB,HBA,hor⟩:=cmp_two x y hx hy
 rcases hor with ⟨rfl,rfl,hne⟩ | ⟨rfl,rfl,rfl⟩ | ⟨rfl,rfl,hne⟩
 · have hxy:¬ txt x=txt y:=fun e=>hne (txt_inj e)
   have hxy2:((txt x).toList == (txt y).toList)=false:=text_ne hne
   clear hne
   go_wp2_with fail
   refine (HAB.out _).mono ?_
   rintro e w2 ⟨rfl,hb1⟩
   replace HW:=hide (ext HW.out hb1)
   clear hb1
   go_wp2_with fail
   refine (HBA.out _).mono ?_
   rintro e w2 ⟨rfl,hb1⟩
   replace HW:=hide (ext HW.out hb1)
   clear hb1
   go_wp2_with fail
   refine (sum_txt x (-x) 0 hx (Sz.neg hx) (by grind) (by omega) _).mono ?_
   rintro e w2 ⟨rfl,hb1⟩
   replace HW:=hide (ext HW.out hb1)
   clear hb1
   go_wp2_with fail
   refine (law_lives _).mono ?_
   rintro e w2 ⟨rfl,hb1⟩
   replace HW:=hide (ext HW.out hb1)
   clear hb1
   go_wp2_with fail
   go_ret
   exact ⟨rfl,HW.out⟩
 · go_wp2_with fail
   refine (HAB.out _).mono ?_
   rintro e w2 ⟨rfl,hb1⟩
   replace HW:=hide (ext HW.out hb1)
   clear hb1
   go_wp2_with fail
   refine (HBA.out _).mono ?_
   rintro e w2 ⟨rfl,hb1⟩
   replace HW:=hide (ext HW.out hb1)
   clear hb1
   go_wp2_with fail
   refine (sum_txt x (-x) 0 hx (Sz.neg hx) (by grind) (by omega) _).mono ?_
   rintro e w2 ⟨rfl,hb1⟩
   replace HW:=hide (ext HW.out hb1)
   clear hb1
   go_wp2_with fail
   refine (law_lives _).mono ?_
   rintro e w2 ⟨rfl,hb1⟩
   replace HW:=hide (ext HW.out hb1)
   clear hb1
   go_wp2_with fail
   go_ret
   exact ⟨rfl,HW.out⟩
 · have hxy:¬ txt x=txt y:=fun e=>hne (txt_inj e)
   have hxy2:((txt x).toList == (txt y).toList)=false:=text_ne hne
   clear hne
   go_wp2_with fail
   refine (HAB.out _).mono ?_
   rintro e w2 ⟨rfl,hb1⟩
   replace HW:=hide (ext HW.out hb1)
   clear hb1
   go_wp2_with fail
   refine (HBA.out _).mono ?_
   rintro e w2 ⟨rfl,hb1⟩
   replace HW:=hide (ext HW.out hb1)
   clear hb1
   go_wp2_with fail
   refine (sum_txt x (-x) 0 hx (Sz.neg hx) (by grind) (by omega) _).mono ?_
   rintro e w2 ⟨rfl,hb1⟩
   replace HW:=hide (ext HW.out hb1)
   clear hb1
   go_wp2_with fail
   refine (law_lives _).mono ?_
   rintro e w2 ⟨rfl,hb1⟩
   replace HW:=hide (ext HW.out hb1)
   clear hb1
   go_wp2_with fail
   go_ret
   exact ⟨rfl,HW.out⟩
theorem law_arithmetic (a b c:ByteArray) (w:World):
 Calls Tryz.prog 4 #[.string a,.string b,.string c] w (RetB w (.bool true)):=by
 by_cases ha:200<a.size
 · exact arith_long0 a b c w (decide_eq_true (by omega))
 have h0:decide ((200:Int)<(a.size:Int))=false:=decide_eq_false (by omega)
 by_cases hb:200<b.size
 · exact arith_long1 a b c w h0 (decide_eq_true (by omega))
 have h1:decide ((200:Int)<(b.size:Int))=false:=decide_eq_false (by omega)
 by_cases hc:200<c.size
 · exact arith_long2 a b c w h0 h1 (decide_eq_true (by omega))
 have h2:decide ((200:Int)<(c.size:Int))=false:=decide_eq_false (by omega)
 cases hx:readFrac (bts a) with
 | none=>exact arith_bad0 a b c w h0 h1 h2 (valid_is a false (by omega) (by rw [hx];rfl))
 | some x=>
   have va:=valid_is a true (by omega) (by rw [hx];rfl)
   cases hy:readFrac (bts b) with
   | none=>exact arith_bad1 a b c w h0 h1 h2 va (valid_is b false (by omega) (by rw [hy];rfl))
   | some y=>
     have vb:=valid_is b true (by omega) (by rw [hy];rfl)
     cases hz:readFrac (bts c) with
     | none=>exact arith_bad2 a b c w h0 h1 h2 va vb (valid_is c false (by omega) (by rw [hz];rfl))
     | some z=>
       have dx:=dz_text hx (by omega)
       have dy:=dz_text hy (by omega)
       have dz:=dz_text hz (by omega)
       obtain rfl:=of_read hx
       obtain rfl:=of_read hy
       obtain rfl:=of_read hz
       exact arith_main x y z w dx dy dz h0 h1 h2
end Go.Proofs.YtnmkalocbfdecaaGreatDoor
