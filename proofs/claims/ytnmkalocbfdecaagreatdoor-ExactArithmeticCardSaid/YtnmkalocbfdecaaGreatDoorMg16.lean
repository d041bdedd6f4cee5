/- The walks of quotients (4): the text, whether it is long, what is told. · The walk of rational: the number of a text. · The walks of what package exact exports: Valid, Add, Sub, Mul, Div, Cmp. · The walks of what package exact exports (2): Add, Sub, Mul, Div, Cmp; PRINTED by gen_rat7.py. · The walks of exact.Neg, exact.Floor, and the law's sum and product. · The contracts of the number layer at texts of numbers (plain names for texts). -/
import Derived.Test.YtnmkalocbfdecaaGreatDoorMg14
import Derived.Test.YtnmkalocbfdecaaGreatDoorMg15
set_option linter.unusedVariables false
set_option linter.unusedSimpArgs false
namespace Go.Proofs.YtnmkalocbfdecaaGreatDoor
open Go.RowKit Go.Deep
attribute [local go_sem ↓] Go.wp_at_zero Go.wp_at_succ
theorem intText_len {z:Int} (h:len 4294967296 z.natAbs ≤ 67108864):(intText z).length ≤ 671088642:=by
 have:=dec_len_le h
 unfold intText
 split
 · rw [List.length_cons];omega
 · omega
theorem fracText_one {q:Rat} (h:q.den=1):fracText q=intText q.num:=by
 unfold fracText intText
 rw [if_pos h]
 by_cases h0:q.num<0
 · rw [if_pos h0,if_pos h0];simp
 · rw [if_neg h0,if_neg h0];simp
theorem fracText_two {q:Rat} (h:q.den≠1):fracText q=intText q.num ++ 47 :: intText (q.den:Int):=by
 have hd:intText (q.den:Int)=dec q.den:=by unfold intText;rw [if_neg (by omega),Int.natAbs_natCast]
 rw [hd]
 unfold fracText intText
 rw [if_neg h]
 by_cases h0:q.num<0
 · rw [if_pos h0,if_pos h0];simp
 · rw [if_neg h0,if_neg h0];simp
theorem str_app (a b:List UInt8):(⟨a.toArray⟩:ByteArray) ++ (⟨b.toArray⟩:ByteArray)=⟨(a ++ b).toArray⟩:=by
 apply ByteArray.ext
 rw [ByteArray.data_append]
 simp
theorem NumIs.one {w:World} {y d:Int} {B:Option Addr} {k c:Nat} {t:Bool} (h:NumIs w (.agg #[.int .i64 y,.slice B k c,.bool t]) d):d=1↔(B=none ∧ y=1):=by
 rcases h with ⟨x,ng,e,h1,h2,rfl⟩ | ⟨ad,k',c',n,ng,e,h1,h2,rfl⟩
 · injection e with e
   have e0:=congrArg (fun a=>a.toList) e
   simp at e0
   obtain ⟨rfl,⟨rfl,rfl,rfl⟩,rfl⟩:=e0
   simp
 · injection e with e
   have e0:=congrArg (fun a=>a.toList) e
   simp at e0
   obtain ⟨rfl,⟨rfl,rfl,rfl⟩,rfl⟩:=e0
   constructor
   · intro h
     split at h<;>omega
   · intro h;cases h.1
set_option maxRecDepth 100000 in
set_option maxHeartbeats 8000000 in
theorem frac_any (va:Value) (q:Rat) (w:World) (ha:RatIs w va q) (hl:RLen 67108864 q):
 Calls Tryz.prog 70 #[va] w (NewStr w (fracText q)):=by
 obtain ⟨x1,A1,k1,c1,s1,y1,B1,k1x,c1x,t1,rfl,ha1,ha2⟩:=ha
 have h1:=NumIs.one ha2
 have HB:=hide (ext_alloc w (.cells #[.int .i64 x1,.slice A1 k1 c1,.bool s1,.int .i64 y1,.slice B1 k1x c1x,.bool t1] 67))
 have HA:=hide (ha1.below HB.out)
 have HAN:=hide ha1
 have HAD:=hide ha2
 have HL1:=hide hl.1
 have HL2:=hide hl.2
 have q0:=fun w=>eqlN w B1 k1x c1x 0 0
 by_cases hd:q.den=1
 · obtain ⟨rfl,rfl⟩:=h1.1 (by omega)
   rw [fracText_one hd]
   clear h1 ha1 ha2 hd hl
   go_enter Tryz.func70,Tryz.ntmps70
   go_wp2_with fail
   refine (text_any _ q.num _ HA.out HL1.out).mono ?_
   rintro e w1 ⟨rfl,hb1⟩
   go_wp2
   go_ret
   exact ⟨rfl,ext HB.out hb1⟩
 · have hl1:=intText_len HL1.out
   have hl2:=intText_len HL2.out
   have HT:=hide (fracText_two hd)
   have hno:¬ (B1=none ∧ y1=1):=fun h=>hd (by have:=h1.2 h;omega)
   have hs1:¬ 9223372036854775807<(intText q.num).length+1:=by omega
   have hs2:¬ 9223372036854775807<(intText q.num).length+1+(intText (q.den:Int)).length:=by omega
   clear h1 ha1 ha2 hd hl hl1 hl2
   have hB0:B1=none → ((y1:Int) == 1)=false:=by
    intro e
    rw [beq_eq_false_iff_ne]
    exact fun h=>hno ⟨e,h⟩
   clear hno
   rcases B1 with _ | bd
   · have hy1:=hB0 rfl
     clear hB0
     have HWX:Hid (Below w.heap.size w ((w.alloc (.cells #[.int .i64 x1,.slice A1 k1 c1,.bool s1,.int .i64 y1,.slice none k1x c1x,.bool t1] 67)).drew)):=hide (below_drewN HB.out 1)
     clear HB HA
     go_enter Tryz.func70,Tryz.ntmps70
     go_wp2_with fail
     go_region_held3 (fun w' =>w'.cell? ⟨w.heap.size,0,none⟩=some (.int .i64 x1) ∧ w'.cell? ⟨w.heap.size,1,none⟩=some (.slice A1 k1 c1) ∧ w'.cell? ⟨w.heap.size,2,none⟩=some (.bool s1) ∧ w'.cell? ⟨w.heap.size,3,none⟩=some (.int .i64 y1) ∧ w'.cell? ⟨w.heap.size,4,none⟩=some (.slice none k1x c1x) ∧ w'.cell? ⟨w.heap.size,5,none⟩=some (.bool t1) ∧ w.heap.size<w'.heap.size ∧ Hid (Below w.heap.size w w'))
      (first
        | with_reducible exact ⟨by go_keep,by go_keep,by go_keep,by go_keep,by go_keep,by go_keep,by first | (simp;done) | (simp;omega),HWX⟩
        | (go_split_ands;with_reducible exact ⟨cell_keep (by assumption) (by assumption) (by assumption),cell_keep (by assumption) (by assumption) (by assumption),cell_keep (by assumption) (by assumption) (by assumption),cell_keep (by assumption) (by assumption) (by assumption),cell_keep (by assumption) (by assumption) (by assumption),cell_keep (by assumption) (by assumption) (by assumption),size_keep (by assumption) (by assumption),hid_below (by assumption) (by assumption)⟩)
        | go_keep)
      (first
        | (go_at_call_of 125 (Value.agg #[.int .i64 x1,.slice A1 k1 c1,.bool s1]);refine (text_any _ q.num _ (HAN.out.below (unhide (by go_split_ands;assumption))) HL1.out).mono ?_;rintro e w1 ⟨rfl,hb1⟩)
        | (go_at_call_of 125 (Value.agg #[.int .i64 y1,.slice none k1x c1x,.bool t1]);refine (text_any _ (q.den:Int) _ (HAD.out.below (unhide (by go_split_ands;assumption))) HL2.out).mono ?_;rintro e w2 ⟨rfl,hb2⟩))
     all_goals
      go_split_ands
      have hRW:=unhide (by assumption:Hid (Below w.heap.size w w2))
      go_wp2
      go_ret
      refine ⟨?_,hRW⟩
      rw [HT.out,show intText q.num ++ 47 :: intText (q.den:Int)=(intText q.num ++ [47]) ++ intText (q.den:Int) by simp, ← str_app, ← str_app]
      rfl
   · clear hB0
     have HWX:Hid (Below w.heap.size w ((w.alloc (.cells #[.int .i64 x1,.slice A1 k1 c1,.bool s1,.int .i64 y1,.slice (some bd) k1x c1x,.bool t1] 67)).drew)):=hide (below_drewN HB.out 1)
     clear HB HA
     go_enter Tryz.func70,Tryz.ntmps70
     go_wp2_with fail
     go_region_held3 (fun w' =>w'.cell? ⟨w.heap.size,0,none⟩=some (.int .i64 x1) ∧ w'.cell? ⟨w.heap.size,1,none⟩=some (.slice A1 k1 c1) ∧ w'.cell? ⟨w.heap.size,2,none⟩=some (.bool s1) ∧ w'.cell? ⟨w.heap.size,3,none⟩=some (.int .i64 y1) ∧ w'.cell? ⟨w.heap.size,4,none⟩=some (.slice (some bd) k1x c1x) ∧ w'.cell? ⟨w.heap.size,5,none⟩=some (.bool t1) ∧ w.heap.size<w'.heap.size ∧ Hid (Below w.heap.size w w'))
      (first
        | with_reducible exact ⟨by go_keep,by go_keep,by go_keep,by go_keep,by go_keep,by go_keep,by first | (simp;done) | (simp;omega),HWX⟩
        | (go_split_ands;with_reducible exact ⟨cell_keep (by assumption) (by assumption) (by assumption),cell_keep (by assumption) (by assumption) (by assumption),cell_keep (by assumption) (by assumption) (by assumption),cell_keep (by assumption) (by assumption) (by assumption),cell_keep (by assumption) (by assumption) (by assumption),cell_keep (by assumption) (by assumption) (by assumption),size_keep (by assumption) (by assumption),hid_below (by assumption) (by assumption)⟩)
        | go_keep)
      (first
        | (go_at_call_of 125 (Value.agg #[.int .i64 x1,.slice A1 k1 c1,.bool s1]);refine (text_any _ q.num _ (HAN.out.below (unhide (by go_split_ands;assumption))) HL1.out).mono ?_;rintro e w1 ⟨rfl,hb1⟩)
        | (go_at_call_of 125 (Value.agg #[.int .i64 y1,.slice (some bd) k1x c1x,.bool t1]);refine (text_any _ (q.den:Int) _ (HAD.out.below (unhide (by go_split_ands;assumption))) HL2.out).mono ?_;rintro e w2 ⟨rfl,hb2⟩))
     all_goals
      go_split_ands
      have hRW:=unhide (by assumption:Hid (Below w.heap.size w w2))
      go_wp2
      go_ret
      refine ⟨?_,hRW⟩
      rw [HT.out,show intText q.num ++ 47 :: intText (q.den:Int)=(intText q.num ++ [47]) ++ intText (q.den:Int) by simp, ← str_app, ← str_app]
      rfl
theorem short_or (M:Nat) (q:Rat):(!decide (Short M q))=(decide (M<(dec q.num.natAbs).length) || decide (M<(dec q.den).length)):=by
 by_cases h1:(dec q.num.natAbs).length ≤ M
 · by_cases h2:(dec q.den).length ≤ M
   · rw [decide_eq_true (show Short M q from ⟨h1,h2⟩),decide_eq_false (by omega),decide_eq_false (by omega)];rfl
   · rw [decide_eq_false (fun h:Short M q=>h2 h.2),decide_eq_true (show M<(dec q.den).length by omega),Bool.or_true];rfl
 · rw [decide_eq_false (fun h:Short M q=>h1 h.1),decide_eq_true (show M<(dec q.num.natAbs).length by omega)];rfl
theorem NatIs.slice {w:World} {v:Value} {n:Nat} (h:NatIs w v n):∃ A c,v= .slice A (len 4294967296 n) c:=by
 obtain ⟨A',c',ds,e,h1,h2,h3,h4,h5⟩:=h
 refine ⟨A',c',?_⟩
 rw [e, ← h5,h4.length_eq (by omega)]
theorem dec_le_len {n M:Nat} (h:len 4294967296 n*10 ≤ M) (hM:1 ≤ M):(dec n).length ≤ M:=by
 by_cases h0:n=0
 · subst h0;rw [dec_zero];simpa using hM
 · rw [dec_length n h0]
   have h4:len 10 n ≤ 10*len 4294967296 n:=by
    apply len_le_of_lt (by omega)
    have h1:=lt_pow_len (β:=4294967296) (by omega) n
    have h2:4294967296 ^ len 4294967296 n ≤ (10 ^ 10) ^ len 4294967296 n:=Nat.pow_le_pow_left (by omega) _
    rw [← Nat.pow_mul] at h2
    exact Nat.lt_of_lt_of_le h1 h2
   omega
set_option maxRecDepth 100000 in
set_option maxHeartbeats 8000000 in
theorem long_any (va:Value) (q:Rat) (M:Nat) (w:World) (ha:RatIs w va q) (hl:RLen 67108864 q) (h1M:1 ≤ M) (hM2:M ≤ 1000000):
 Calls Tryz.prog 95 #[va,.int .i64 M] w (RetB w (.bool (!decide (Short M q)))):=by
 obtain ⟨x1,A1,k1,c1,s1,y1,B1,k1x,c1x,t1,rfl,ha1,ha2⟩:=ha
 have hW:=ext_alloc w (.cells #[.int .i64 x1,.slice A1 k1 c1,.bool s1,.int .i64 y1,.slice B1 k1x c1x,.bool t1] 67)
 have HA:=hide (ha1.below hW)
 have HD:=hide (ha2.below hW)
 have HW:=hide hW
 have HL1:=hide hl.1
 have HL2:=hide hl.2
 have kB:=Blk.new w 67 #[.int .i64 x1,.slice A1 k1 c1,.bool s1,.int .i64 y1,.slice B1 k1x c1x,.bool t1]
 have HK:=hide kB
 clear ha1 ha2 hl hW kB
 go_enter Tryz.func95,Tryz.ntmps95
 go_wp2_with fail
 refine (parts_any _ q.num _ HA.out).mono ?_
 rintro e w1 ⟨p,rfl,hp,hb1⟩
 have kB1:=HK.out.below hb1 HK.out.lt
 have b3:=kB1.cell 3
 have b4:=kB1.cell 4
 have b5:=kB1.cell 5
 simp at b3 b4 b5
 have HP:=hide hp
 have HB1:=hide hb1
 clear hp hb1 kB1
 go_wp2_with fail
 refine (parts_any _ (q.den:Int) _ (HD.out.below HB1.out)).mono ?_
 rintro e w2 ⟨p',rfl,hp',hb2⟩
 obtain ⟨A2,c2,rfl⟩:=HP.out.slice
 obtain ⟨A3,c3,rfl⟩:=hp'.slice
 have HP2:=hide (HP.out.below hb2)
 have HP' :=hide hp'
 have HW2:=hide (ext (ext HW.out HB1.out) hb2)
 clear b3 b4 b5 hp' hb2
 have hk1:len 4294967296 q.num.natAbs ≤ 67108864:=HL1.out
 have hk2:len 4294967296 (q.den:Int).natAbs ≤ 67108864:=HL2.out
 obtain ⟨a,hA⟩:∃ a,a=len 4294967296 q.num.natAbs:=⟨_,rfl⟩
 obtain ⟨b,hB⟩:∃ b,b=len 4294967296 (q.den:Int).natAbs:=⟨_,rfl⟩
 rw [← hA] at hk1
 rw [← hB] at hk2
 rw [← hA] at HP2
 rw [← hB] at HP'
 have HA' :=hide hA
 have HB' :=hide hB
 rw [← hA, ← hB]
 clear hA hB
 rcases (show a ≤ b ∨ b<a by omega) with hab | hab
 · by_cases hm:b*10 ≤ M
   · have HS:=hide (show Short M q from ⟨dec_le_len (by rw [← HA'.out];omega) h1M,by have:=dec_le_len (n:=(q.den:Int).natAbs) (by rw [← HB'.out];omega) h1M;rwa [Int.natAbs_natCast] at this⟩)
     have HR:=hide (show (!decide (Short M q))=false by rw [decide_eq_true HS.out];rfl)
     go_wp2_with fail
     go_ret
     exact ⟨ret_bool HR.out,HW2.out⟩
   · have hm' :¬ (b:Int)*10 ≤ (M:Int):=by omega
     have hd1:=dec_len_le HL1.out
     go_wp2_with fail
     refine (nat_text _ _ _ HP2.out HL1.out).mono ?_
     rintro e w3 ⟨rfl,hb3⟩
     have HP3:=hide (HP'.out.below hb3)
     have HW3:=hide (ext HW2.out hb3)
     clear hb3
     by_cases h1:(dec q.num.natAbs).length ≤ M
     · have hd2:=dec_len_le HL2.out
       have hI1:¬ (M:Int)<((dec q.num.natAbs).length:Int):=by omega
       have HQ:=hide h1
       clear h1
       by_cases h2:(dec (q.den:Int).natAbs).length ≤ M
       · have HR:=hide (show (!decide (Short M q))=false by rw [decide_eq_true ⟨HQ.out,by rw [Int.natAbs_natCast] at h2;exact h2⟩];rfl)
         have hI2:¬ (M:Int)<((dec (q.den:Int).natAbs).length:Int):=by omega
         clear h2
         go_wp2_with fail
         refine (nat_text _ _ _ HP3.out HL2.out).mono ?_
         rintro e w4 ⟨rfl,hb4⟩
         go_wp2_with fail
         go_ret
         exact ⟨ret_bool (short_or M q),ext HW3.out hb4⟩
       · have HR:=hide (show (!decide (Short M q))=true by rw [decide_eq_false (fun h=>h2 (by rw [Int.natAbs_natCast];exact h.2))];rfl)
         have hI2:(M:Int)<((dec (q.den:Int).natAbs).length:Int):=by omega
         clear h2
         go_wp2_with fail
         refine (nat_text _ _ _ HP3.out HL2.out).mono ?_
         rintro e w4 ⟨rfl,hb4⟩
         go_wp2_with fail
         go_ret
         exact ⟨ret_bool (short_or M q),ext HW3.out hb4⟩
     · have HR:=hide (show (!decide (Short M q))=true by rw [decide_eq_false (fun h=>h1 h.1)];rfl)
       have hI1:(M:Int)<((dec q.num.natAbs).length:Int):=by omega
       clear h1
       go_wp2_with fail
       go_ret
       exact ⟨ret_bool HR.out,HW3.out⟩
 · by_cases hm:a*10 ≤ M
   · have HS:=hide (show Short M q from ⟨dec_le_len (by rw [← HA'.out];omega) h1M,by have:=dec_le_len (n:=(q.den:Int).natAbs) (by rw [← HB'.out];omega) h1M;rwa [Int.natAbs_natCast] at this⟩)
     have HR:=hide (show (!decide (Short M q))=false by rw [decide_eq_true HS.out];rfl)
     go_wp2_with fail
     go_ret
     exact ⟨ret_bool HR.out,HW2.out⟩
   · have hm' :¬ (a:Int)*10 ≤ (M:Int):=by omega
     have hd1:=dec_len_le HL1.out
     go_wp2_with fail
     refine (nat_text _ _ _ HP2.out HL1.out).mono ?_
     rintro e w3 ⟨rfl,hb3⟩
     have HP3:=hide (HP'.out.below hb3)
     have HW3:=hide (ext HW2.out hb3)
     clear hb3
     by_cases h1:(dec q.num.natAbs).length ≤ M
     · have hd2:=dec_len_le HL2.out
       have hI1:¬ (M:Int)<((dec q.num.natAbs).length:Int):=by omega
       have HQ:=hide h1
       clear h1
       by_cases h2:(dec (q.den:Int).natAbs).length ≤ M
       · have HR:=hide (show (!decide (Short M q))=false by rw [decide_eq_true ⟨HQ.out,by rw [Int.natAbs_natCast] at h2;exact h2⟩];rfl)
         have hI2:¬ (M:Int)<((dec (q.den:Int).natAbs).length:Int):=by omega
         clear h2
         go_wp2_with fail
         refine (nat_text _ _ _ HP3.out HL2.out).mono ?_
         rintro e w4 ⟨rfl,hb4⟩
         go_wp2_with fail
         go_ret
         exact ⟨ret_bool (short_or M q),ext HW3.out hb4⟩
       · have HR:=hide (show (!decide (Short M q))=true by rw [decide_eq_false (fun h=>h2 (by rw [Int.natAbs_natCast];exact h.2))];rfl)
         have hI2:(M:Int)<((dec (q.den:Int).natAbs).length:Int):=by omega
         clear h2
         go_wp2_with fail
         refine (nat_text _ _ _ HP3.out HL2.out).mono ?_
         rintro e w4 ⟨rfl,hb4⟩
         go_wp2_with fail
         go_ret
         exact ⟨ret_bool (short_or M q),ext HW3.out hb4⟩
     · have HR:=hide (show (!decide (Short M q))=true by rw [decide_eq_false (fun h=>h1 h.1)];rfl)
       have hI1:(M:Int)<((dec q.num.natAbs).length:Int):=by omega
       clear h1
       go_wp2_with fail
       go_ret
       exact ⟨ret_bool HR.out,HW3.out⟩
def toldOf (q:Rat):List UInt8×Int:=if Short 50000 q then (fracText q,0) else ([],3)
def RetT (w:World) (r:List UInt8×Int) (e:Ending) (w' :World):Prop:=e= .returned (.tuple #[str r.1,.int .i64 r.2]) ∧ Below w.heap.size w w'
set_option maxRecDepth 100000 in
theorem told_any (va:Value) (q:Rat) (w:World) (ha:RatIs w va q) (hl:RLen 67108864 q):
 Calls Tryz.prog 54 #[va] w (RetT w (toldOf q)):=by
 obtain ⟨x1,A1,k1,c1,s1,y1,B1,k1x,c1x,t1,rfl,ha1,ha2⟩:=ha
 have hW:=ext_alloc w (.cells #[.int .i64 x1,.slice A1 k1 c1,.bool s1,.int .i64 y1,.slice B1 k1x c1x,.bool t1] 67)
 have HR:=hide (show RatIs _ _ q from ⟨_,_,_,_,_,_,_,_,_,_,rfl,ha1.below hW,ha2.below hW⟩)
 have HW:=hide hW
 have HL:=hide hl
 have kB:=Blk.new w 67 #[.int .i64 x1,.slice A1 k1 c1,.bool s1,.int .i64 y1,.slice B1 k1x c1x,.bool t1]
 have HK:=hide kB
 clear ha1 ha2 hl hW kB
 have hlg:=fun v w h hl=>long_any v q 50000 w h hl (by omega) (by omega)
 by_cases hs:Short 50000 q
 · have e1:(!decide (Short 50000 q))=false:=by rw [decide_eq_true hs];rfl
   have e2:toldOf q=(fracText q,0):=by unfold toldOf;rw [if_pos hs]
   rw [e1] at hlg
   rw [e2]
   clear e1 e2 hs
   go_enter Tryz.func54,Tryz.ntmps54
   go_wp2_with fail
   refine (hlg _ _ HR.out HL.out).mono ?_
   rintro e w1 ⟨rfl,hb1⟩
   have kB1:=HK.out.below hb1 HK.out.lt
   have b0:=kB1.cell 0
   have b1:=kB1.cell 1
   have b2:=kB1.cell 2
   have b3:=kB1.cell 3
   have b4:=kB1.cell 4
   have b5:=kB1.cell 5
   simp at b0 b1 b2 b3 b4 b5
   have HB1:=hide hb1
   clear hb1 kB1
   go_wp2_with fail
   refine (frac_any _ q w1 (HR.out.below HB1.out) HL.out).mono ?_
   rintro e w2 ⟨rfl,hb2⟩
   have HB2:=hide hb2
   clear hb2
   go_wp2_with fail
   go_ret2
   exact ⟨rfl,ext (ext HW.out HB1.out) HB2.out⟩
 · have e1:(!decide (Short 50000 q))=true:=by rw [decide_eq_false hs];rfl
   have e2:toldOf q=([],3):=by unfold toldOf;rw [if_neg hs]
   rw [e1] at hlg
   rw [e2]
   clear e1 e2 hs
   go_enter Tryz.func54,Tryz.ntmps54
   go_wp2_with fail
   refine (hlg _ _ HR.out HL.out).mono ?_
   rintro e w1 ⟨rfl,hb1⟩
   have HB1:=hide hb1
   clear hb1
   go_wp2_with fail
   go_ret2
   exact ⟨rfl,ext HW.out HB1.out⟩
end Go.Proofs.YtnmkalocbfdecaaGreatDoor
namespace Go.Proofs.YtnmkalocbfdecaaGreatDoor
open Go.RowKit Go.Deep
attribute [local go_sem ↓] Go.wp_at_zero Go.wp_at_succ
theorem hid_num {w w' :World} {v:Value} {z:Int} (hb:Below w.heap.size w w') (h:Hid (NumIs w v z)):Hid (NumIs w' v z):=h.out.below hb
theorem hid_num_rat {w:World} {g:Nat} {v:Value} {z x y:Int} {A B:Option Addr} {k c k' c' :Nat} {s t:Bool} (hr:Hid (ResIs w g)) (h:Hid (NumIs w v z)):Hid (NumIs (World.rat w g x A k c s y B k' c' t) v z):=by
 obtain ⟨x,A,k,c,s,y,B,k',c',t,hr⟩:=hr.out
 exact rat_stored h.out hr
def AggR (v:Value):Prop:=∃ (x:Int) (A:Option Addr) (k c:Nat) (s:Bool) (y:Int) (B:Option Addr) (k' c' :Nat) (t:Bool),v= .agg #[.int .i64 x,.slice A k c,.bool s,.int .i64 y,.slice B k' c',.bool t]
def RetRat (w:World) (l:List UInt8) (e:Ending) (w' :World):Prop:=
 ∃ v b,e= .returned (.tuple #[v,.bool b]) ∧ AggR v ∧ b=(readFrac l).isSome ∧ (∀ q,readFrac l=some q → RatIs w' v q) ∧ Below w.heap.size w w'
theorem RetRat.no {w w' :World} {l:List UInt8} {v:Value} (h:readFrac l=none) (hv:AggR v) (hb:Below w.heap.size w w'):RetRat w l (.returned (.tuple #[v,.bool false])) w' :=
 ⟨v,false,rfl,hv,by rw [h];rfl,fun q hq=>(by rw [h] at hq;cases hq),hb⟩
theorem RetRat.yes {w w' :World} {l:List UInt8} {v:Value} {q:Rat} (h:readFrac l=some q) (hv:RatIs w' v q) (hb:Below w.heap.size w w'):RetRat w l (.returned (.tuple #[v,.bool true])) w' :=by
 refine ⟨v,true,rfl,?_,(by rw [h];rfl),fun q' hq=>?_,hb⟩
 · obtain ⟨x,A,k,c,s,y,B,k',c',t,rfl,_,_⟩:=hv
   exact ⟨x,A,k,c,s,y,B,k',c',t,rfl⟩
 · rw [h] at hq;injection hq with hq;rw [← hq];exact hv
theorem RetRat.maybe {w w' :World} {l:List UInt8} {v:Value} {q:Rat} {d:Nat} (h:readFrac l=if q.den=d then some q else none) (hv:RatIs w' v q) (hb:Below w.heap.size w w'):
 RetRat w l (.returned (.tuple #[v,.bool (cmpOf (q.den:Int) (signed false d) == 0)])) w' :=by
 have e:(cmpOf (q.den:Int) (signed false d) == 0)=decide (q.den=d):=by
  unfold cmpOf signed
  simp only [Bool.false_eq_true,if_false]
  rcases Nat.lt_trichotomy q.den d with h1 | h1 | h1
  · rw [if_pos (by omega),decide_eq_false (by omega)];rfl
  · rw [if_neg (by omega),if_neg (by omega),decide_eq_true h1];rfl
  · rw [if_neg (by omega),if_pos (by omega),decide_eq_false (by omega)];rfl
 rw [e]
 by_cases hd:q.den=d
 · rw [decide_eq_true hd]
   rw [if_pos hd] at h
   exact RetRat.yes h hv hb
 · rw [decide_eq_false hd]
   rw [if_neg hd] at h
   obtain ⟨x,A,k,c,s,y,B,k',c',t,rfl,_,_⟩:=hv
   exact RetRat.no h ⟨x,A,k,c,s,y,B,k',c',t,rfl⟩ hb
theorem toList_one (a:ByteArray) (c:UInt8):(a.toList == [c])=decide (bts a=[c]):=by
 rw [Lib.toList_data]
 unfold bts
 rw [Bool.eq_iff_iff,beq_iff_eq,decide_eq_true_iff]
theorem num_one (w:World):NumIs w (.agg #[.int .i64 1,.slice none 0 0,.bool false]) 1:=.inl ⟨1,false,rfl,by omega,by omega,rfl⟩
theorem signed_ratOf (s:Bool) (n d:Nat):Rat.divInt (signed s n) (signed false d)=ratOf s n d:=by
 unfold ratOf signed
 cases s<;>simp
theorem signed_len {s:Bool} {n M:Nat} (h:len 4294967296 n ≤ M):len 4294967296 (signed s n).natAbs ≤ M:=by
 unfold signed
 cases s<;>simpa using h
set_option maxRecDepth 100000 in
set_option maxHeartbeats 8000000 in
theorem rational_any (s:ByteArray) (w:World) (hs:s.size ≤ 1073741824):
 Calls Tryz.prog 45 #[.string s] w (RetRat w (bts s)):=by
 have hcp:=fun w=>str_cutprefix s w hs
 have kR:=Blk.new w 67 #[.int .i64 0,.slice none 0 0,.bool false,.int .i64 0,.slice none 0 0,.bool false]
 have hWR:=ext_alloc w (.cells #[.int .i64 0,.slice none 0 0,.bool false,.int .i64 0,.slice none 0 0,.bool false] 67)
 go_enter Tryz.func45,Tryz.ntmps45
 go_wp2_with fail
 refine (hcp _).mono ?_
 rintro e w1 ⟨u,rfl,hu,rfl⟩
 have hus:u.size ≤ 1073741824:=by
  rw [← bts_length,hu]
  unfold unsigned
  have:=bts_length s
  split
  · rw [List.length_tail];omega
  · omega
 have hct:=fun w=>str_cut u 47 w hus
 obtain ⟨neg,hneg⟩:∃ neg,neg=signOf (bts s):=⟨_,rfl⟩
 rw [← hneg]
 have HU:=hide hu
 have HN:=hide hneg
 clear hcp hu hneg
 go_wp2_with fail
 refine (hct _).mono ?_
 rintro e w1 ⟨a,b,rfl,ha,hb,n1,rfl⟩
 rw [HU.out] at ha hb ⊢
 obtain ⟨is_,his⟩:∃ is_,is_=has 47 (unsigned (bts s)):=⟨_,rfl⟩
 rw [← his] at hb ⊢
 have has1:a.size ≤ 1073741824:=by
  have h1:(ahead 47 (unsigned (bts s))).length ≤ (unsigned (bts s)).length:=(List.takeWhile_sublist _).length_le
  rw [← ha, ← HU.out,bts_length,bts_length] at h1
  omega
 have hbs1:b.size ≤ 1073741824:=by
  rw [← bts_length,hb]
  split
  · have h1:(behind 47 (unsigned (bts s))).length ≤ (unsigned (bts s)).length:=by
     unfold behind
     rw [List.length_tail]
     have:=(List.dropWhile_sublist (fun x=>x != (47:UInt8)) (l:=unsigned (bts s))).length_le
     omega
    rw [← HU.out,bts_length] at h1
    rw [HU.out] at h1
    omega
  · simp
 have hpa:=fun w=>plain_any a w has1
 have hpb:=fun w=>plain_any b w hbs1
 have za:=toList_one a 48
 have zb:=toList_one b 48
 have zc:=toList_one b 49
 rw [ha] at hpa za
 have HA:=hide ha
 have HB:=hide hb
 have HI:=hide his
 have HS:=hide hs
 have kR1:=kR.drewN n1
 have hWR1:=below_drewN hWR n1
 clear hct ha hb his hus has1 hbs1 hs kR hWR
 generalize (w.alloc (.cells #[.int .i64 0,.slice none 0 0,.bool false,.int .i64 0,.slice none 0 0,.bool false] 67)).drewN n1=w1 at kR1 hWR1 ⊢
 have lR:=kR1.lt
 have r0:=kR1.cell 0
 have r1:=kR1.cell 1
 have r2:=kR1.cell 2
 have r3:=kR1.cell 3
 have r4:=kR1.cell 4
 have r5:=kR1.cell 5
 have f0:=kR1.frozen 0
 have f1:=kR1.frozen 1
 have f2:=kR1.frozen 2
 have f3:=kR1.frozen 3
 have f4:=kR1.frozen 4
 have f5:=kR1.frozen 5
 simp at r0 r1 r2 r3 r4 r5
 have HKR:=hide kR1
 have HWR:=hide hWR1
 clear kR1 hWR1
 cases hpl:plainDigs (ahead 47 (unsigned (bts s))) with
 | false=>
   have HP:=hide (read_no1 hpl)
   rw [hpl] at hpa
   clear hpl za zb zc hpb
   go_wp2_with fail
   refine (hpa _).mono ?_
   rintro e w2 ⟨rfl,rfl⟩
   go_wp2_with fail
   have kR2:=rat_blk (x:=0) (A:=none) (k:=0) (c:=0) (s:=false) (y:=0) (B:=none) (k' :=0) (c' :=0) (t:=false) HKR.out
   have e0:=kR2.cell 0
   have e1:=kR2.cell 1
   have e2:=kR2.cell 2
   have e3:=kR2.cell 3
   have e4:=kR2.cell 4
   have e5:=kR2.cell 5
   simp only [World.rat] at e0 e1 e2 e3 e4 e5
   simp at e0 e1 e2 e3 e4 e5
   refine bodyPost_ret (v:=.tuple #[.agg #[.int .i64 0,.slice none 0 0,.bool false,.int .i64 0,.slice none 0 0,.bool false],.bool false]) (by simp [results,Tryz.results45,go_sem,e0,e1,e2,e3,e4,e5]) rfl ?_
   exact RetRat.no HP.out ⟨_,_,_,_,_,_,_,_,_,_,rfl⟩ (rat_below (x:=0) (A:=none) (k:=0) (c:=0) (s:=false) (y:=0) (B:=none) (k' :=0) (c' :=0) (t:=false) HWR.out (Nat.le_refl _))
 | true=>
   have HPL:=hide hpl
   rw [hpl] at hpa
   clear hpl
   go_wp2_with fail
   refine (hpa _).mono ?_
   rintro e w2 ⟨rfl,rfl⟩
   clear hpa
   cases neg with
   | false=>
     cases za1:(a.toList == [48]) with
     | true=>
       cases is_ with
       | false=>
         have HP:=hide (read_whole HPL.out (fun h=>by rw [← HN.out] at h;cases h) HI.out.symm)
         have HC:=hide (plain_all HPL.out)
         rw [← HN.out] at HP
         have HAS:=hide (show a.size ≤ 50000 by rw [← bts_length,HA.out];exact HC.out.2)
         clear za zb zc hpb
         go_wp2_with fail
         refine (natOf_any a _ (by rw [HA.out];exact HC.out.1) HAS.out).mono ?_
         rintro e w2 ⟨v,rfl,hv,hb2⟩
         rw [HA.out] at hv
         have HV:=hide hv
         have HKR2:=hide (HKR.out.below hb2 lR)
         have HWR2:=hide (ext HWR.out hb2)
         clear hv hb2 r0 r1 r2 r3 r4 r5 f0 f1 f2 f3 f4 f5
         go_wp2_with fail
         refine (made_any false v _ w2 HV.out).mono ?_
         rintro e w3 ⟨v3,rfl,hv3,hb3⟩
         obtain ⟨x',A',k',c',ng',rfl,_,_,_⟩:=hv3.form
         have hb4:=ext_alloc w3 (.cells #[.int .i64 x',.slice A' k' c',.bool ng'] 65)
         have HV3:=hide (hv3.below hb4)
         have kR3:=(HKR2.out.below hb3 HKR2.out.lt).below hb4 (HKR2.out.below hb3 HKR2.out.lt).lt
         have HWR3:=hide (ext (ext HWR2.out hb3) hb4)
         have HKR3:=hide kR3
         have r0:=kR3.cell 0
         have r1:=kR3.cell 1
         have r2:=kR3.cell 2
         have r3:=kR3.cell 3
         have r4:=kR3.cell 4
         have r5:=kR3.cell 5
         have f0:=kR3.frozen 0
         have f1:=kR3.frozen 1
         have f2:=kR3.frozen 2
         have f3:=kR3.frozen 3
         have f4:=kR3.frozen 4
         have f5:=kR3.frozen 5
         simp at r0 r1 r2 r3 r4 r5
         have kX:=Blk.new w3 65 #[.int .i64 x',.slice A' k' c',.bool ng']
         have g0:=kX.cell 0
         have g1:=kX.cell 1
         have g2:=kX.cell 2
         simp at g0 g1 g2
         clear hb3 hv3 hb4 kR3 kX lR
         go_wp2_with fail
         have kR4:=rat_blk (x:=x') (A:=A') (k:=k') (c:=c') (s:=ng') (y:=1) (B:=none) (k' :=0) (c' :=0) (t:=false) HKR3.out
         have e0:=kR4.cell 0
         have e1:=kR4.cell 1
         have e2:=kR4.cell 2
         have e3:=kR4.cell 3
         have e4:=kR4.cell 4
         have e5:=kR4.cell 5
         simp only [World.rat] at e0 e1 e2 e3 e4 e5
         simp at e0 e1 e2 e3 e4 e5
         refine bodyPost_ret (v:=.tuple #[.agg #[.int .i64 x',.slice A' k' c',.bool ng',.int .i64 1,.slice none 0 0,.bool false],.bool true]) (by simp [results,Tryz.results45,go_sem,e0,e1,e2,e3,e4,e5]) rfl ?_
         refine RetRat.yes HP.out ⟨_,_,_,_,_,_,_,_,_,_,rfl,?_,?_⟩ (rat_below HWR3.out (Nat.le_refl _))
         · rw [(ratOf_one _ _).1]
           exact rat_stored HV3.out HKR3.out
         · rw [(ratOf_one _ _).2]
           exact num_one _
       | true=>
         cases hpb2:plainDigs (bts b) with
         | false=>
           have HP:=hide (read_no3 HI.out.symm (.inl (by have:=HB.out;rw [if_pos rfl] at this;rw [← this];exact hpb2)))
           rw [hpb2] at hpb
           clear hpb2 za zb zc
           go_wp2_with fail
           refine (hpb _).mono ?_
           rintro e w2 ⟨rfl,rfl⟩
           go_wp2_with fail
           have kR2:=rat_blk (x:=0) (A:=none) (k:=0) (c:=0) (s:=false) (y:=0) (B:=none) (k' :=0) (c' :=0) (t:=false) HKR.out
           have e0:=kR2.cell 0
           have e1:=kR2.cell 1
           have e2:=kR2.cell 2
           have e3:=kR2.cell 3
           have e4:=kR2.cell 4
           have e5:=kR2.cell 5
           simp only [World.rat] at e0 e1 e2 e3 e4 e5
           simp at e0 e1 e2 e3 e4 e5
           refine bodyPost_ret (v:=.tuple #[.agg #[.int .i64 0,.slice none 0 0,.bool false,.int .i64 0,.slice none 0 0,.bool false],.bool false]) (by simp [results,Tryz.results45,go_sem,e0,e1,e2,e3,e4,e5]) rfl ?_
           exact RetRat.no HP.out ⟨_,_,_,_,_,_,_,_,_,_,rfl⟩ (rat_below (x:=0) (A:=none) (k:=0) (c:=0) (s:=false) (y:=0) (B:=none) (k' :=0) (c' :=0) (t:=false) HWR.out (Nat.le_refl _))
         | true=>
           have HPB:=hide hpb2
           rw [hpb2] at hpb
           clear hpb2
           cases zb1:(b.toList == [48]) with
           | true=>
             have HP:=hide (read_no3 HI.out.symm (.inr (.inl (by have:=HB.out;rw [if_pos rfl] at this;rw [← this];exact of_decide_eq_true (zb.symm.trans zb1)))))
             clear za zb zc
             go_wp2_with fail
             refine (hpb _).mono ?_
             rintro e w2 ⟨rfl,rfl⟩
             go_wp2_with fail
             have kR2:=rat_blk (x:=0) (A:=none) (k:=0) (c:=0) (s:=false) (y:=0) (B:=none) (k' :=0) (c' :=0) (t:=false) HKR.out
             have e0:=kR2.cell 0
             have e1:=kR2.cell 1
             have e2:=kR2.cell 2
             have e3:=kR2.cell 3
             have e4:=kR2.cell 4
             have e5:=kR2.cell 5
             simp only [World.rat] at e0 e1 e2 e3 e4 e5
             simp at e0 e1 e2 e3 e4 e5
             refine bodyPost_ret (v:=.tuple #[.agg #[.int .i64 0,.slice none 0 0,.bool false,.int .i64 0,.slice none 0 0,.bool false],.bool false]) (by simp [results,Tryz.results45,go_sem,e0,e1,e2,e3,e4,e5]) rfl ?_
             exact RetRat.no HP.out ⟨_,_,_,_,_,_,_,_,_,_,rfl⟩ (rat_below (x:=0) (A:=none) (k:=0) (c:=0) (s:=false) (y:=0) (B:=none) (k' :=0) (c' :=0) (t:=false) HWR.out (Nat.le_refl _))
           | false=>
             cases zc1:(b.toList == [49]) with
             | true=>
               have HP:=hide (read_no3 HI.out.symm (.inr (.inr (.inl (by have:=HB.out;rw [if_pos rfl] at this;rw [← this];exact of_decide_eq_true (zc.symm.trans zc1))))))
               clear za zb zc
               go_wp2_with fail
               refine (hpb _).mono ?_
               rintro e w2 ⟨rfl,rfl⟩
               go_wp2_with fail
               have kR2:=rat_blk (x:=0) (A:=none) (k:=0) (c:=0) (s:=false) (y:=0) (B:=none) (k' :=0) (c' :=0) (t:=false) HKR.out
               have e0:=kR2.cell 0
               have e1:=kR2.cell 1
               have e2:=kR2.cell 2
               have e3:=kR2.cell 3
               have e4:=kR2.cell 4
               have e5:=kR2.cell 5
               simp only [World.rat] at e0 e1 e2 e3 e4 e5
               simp at e0 e1 e2 e3 e4 e5
               refine bodyPost_ret (v:=.tuple #[.agg #[.int .i64 0,.slice none 0 0,.bool false,.int .i64 0,.slice none 0 0,.bool false],.bool false]) (by simp [results,Tryz.results45,go_sem,e0,e1,e2,e3,e4,e5]) rfl ?_
               exact RetRat.no HP.out ⟨_,_,_,_,_,_,_,_,_,_,rfl⟩ (rat_below (x:=0) (A:=none) (k:=0) (c:=0) (s:=false) (y:=0) (B:=none) (k' :=0) (c' :=0) (t:=false) HWR.out (Nat.le_refl _))
             | false=>
               have HP:=hide (read_no3 HI.out.symm (.inr (.inr (.inr (of_decide_eq_true (by rw [← za];exact za1))))))
               clear za zb zc
               go_wp2_with fail
               refine (hpb _).mono ?_
               rintro e w2 ⟨rfl,rfl⟩
               go_wp2_with fail
               have kR2:=rat_blk (x:=0) (A:=none) (k:=0) (c:=0) (s:=false) (y:=0) (B:=none) (k' :=0) (c' :=0) (t:=false) HKR.out
               have e0:=kR2.cell 0
               have e1:=kR2.cell 1
               have e2:=kR2.cell 2
               have e3:=kR2.cell 3
               have e4:=kR2.cell 4
               have e5:=kR2.cell 5
               simp only [World.rat] at e0 e1 e2 e3 e4 e5
               simp at e0 e1 e2 e3 e4 e5
               refine bodyPost_ret (v:=.tuple #[.agg #[.int .i64 0,.slice none 0 0,.bool false,.int .i64 0,.slice none 0 0,.bool false],.bool false]) (by simp [results,Tryz.results45,go_sem,e0,e1,e2,e3,e4,e5]) rfl ?_
               exact RetRat.no HP.out ⟨_,_,_,_,_,_,_,_,_,_,rfl⟩ (rat_below (x:=0) (A:=none) (k:=0) (c:=0) (s:=false) (y:=0) (B:=none) (k' :=0) (c' :=0) (t:=false) HWR.out (Nat.le_refl _))
     | false=>
       cases is_ with
       | false=>
         have HP:=hide (read_whole HPL.out (fun h=>by rw [← HN.out] at h;cases h) HI.out.symm)
         have HC:=hide (plain_all HPL.out)
         rw [← HN.out] at HP
         have HAS:=hide (show a.size ≤ 50000 by rw [← bts_length,HA.out];exact HC.out.2)
         clear za zb zc hpb
         go_wp2_with fail
         refine (natOf_any a _ (by rw [HA.out];exact HC.out.1) HAS.out).mono ?_
         rintro e w2 ⟨v,rfl,hv,hb2⟩
         rw [HA.out] at hv
         have HV:=hide hv
         have HKR2:=hide (HKR.out.below hb2 lR)
         have HWR2:=hide (ext HWR.out hb2)
         clear hv hb2 r0 r1 r2 r3 r4 r5 f0 f1 f2 f3 f4 f5
         go_wp2_with fail
         refine (made_any false v _ w2 HV.out).mono ?_
         rintro e w3 ⟨v3,rfl,hv3,hb3⟩
         obtain ⟨x',A',k',c',ng',rfl,_,_,_⟩:=hv3.form
         have hb4:=ext_alloc w3 (.cells #[.int .i64 x',.slice A' k' c',.bool ng'] 65)
         have HV3:=hide (hv3.below hb4)
         have kR3:=(HKR2.out.below hb3 HKR2.out.lt).below hb4 (HKR2.out.below hb3 HKR2.out.lt).lt
         have HWR3:=hide (ext (ext HWR2.out hb3) hb4)
         have HKR3:=hide kR3
         have r0:=kR3.cell 0
         have r1:=kR3.cell 1
         have r2:=kR3.cell 2
         have r3:=kR3.cell 3
         have r4:=kR3.cell 4
         have r5:=kR3.cell 5
         have f0:=kR3.frozen 0
         have f1:=kR3.frozen 1
         have f2:=kR3.frozen 2
         have f3:=kR3.frozen 3
         have f4:=kR3.frozen 4
         have f5:=kR3.frozen 5
         simp at r0 r1 r2 r3 r4 r5
         have kX:=Blk.new w3 65 #[.int .i64 x',.slice A' k' c',.bool ng']
         have g0:=kX.cell 0
         have g1:=kX.cell 1
         have g2:=kX.cell 2
         simp at g0 g1 g2
         clear hb3 hv3 hb4 kR3 kX lR
         go_wp2_with fail
         have kR4:=rat_blk (x:=x') (A:=A') (k:=k') (c:=c') (s:=ng') (y:=1) (B:=none) (k' :=0) (c' :=0) (t:=false) HKR3.out
         have e0:=kR4.cell 0
         have e1:=kR4.cell 1
         have e2:=kR4.cell 2
         have e3:=kR4.cell 3
         have e4:=kR4.cell 4
         have e5:=kR4.cell 5
         simp only [World.rat] at e0 e1 e2 e3 e4 e5
         simp at e0 e1 e2 e3 e4 e5
         refine bodyPost_ret (v:=.tuple #[.agg #[.int .i64 x',.slice A' k' c',.bool ng',.int .i64 1,.slice none 0 0,.bool false],.bool true]) (by simp [results,Tryz.results45,go_sem,e0,e1,e2,e3,e4,e5]) rfl ?_
         refine RetRat.yes HP.out ⟨_,_,_,_,_,_,_,_,_,_,rfl,?_,?_⟩ (rat_below HWR3.out (Nat.le_refl _))
         · rw [(ratOf_one _ _).1]
           exact rat_stored HV3.out HKR3.out
         · rw [(ratOf_one _ _).2]
           exact num_one _
       | true=>
         cases hpb2:plainDigs (bts b) with
         | false=>
           have HP:=hide (read_no3 HI.out.symm (.inl (by have:=HB.out;rw [if_pos rfl] at this;rw [← this];exact hpb2)))
           rw [hpb2] at hpb
           clear hpb2 za zb zc
           go_wp2_with fail
           refine (hpb _).mono ?_
           rintro e w2 ⟨rfl,rfl⟩
           go_wp2_with fail
           have kR2:=rat_blk (x:=0) (A:=none) (k:=0) (c:=0) (s:=false) (y:=0) (B:=none) (k' :=0) (c' :=0) (t:=false) HKR.out
           have e0:=kR2.cell 0
           have e1:=kR2.cell 1
           have e2:=kR2.cell 2
           have e3:=kR2.cell 3
           have e4:=kR2.cell 4
           have e5:=kR2.cell 5
           simp only [World.rat] at e0 e1 e2 e3 e4 e5
           simp at e0 e1 e2 e3 e4 e5
           refine bodyPost_ret (v:=.tuple #[.agg #[.int .i64 0,.slice none 0 0,.bool false,.int .i64 0,.slice none 0 0,.bool false],.bool false]) (by simp [results,Tryz.results45,go_sem,e0,e1,e2,e3,e4,e5]) rfl ?_
           exact RetRat.no HP.out ⟨_,_,_,_,_,_,_,_,_,_,rfl⟩ (rat_below (x:=0) (A:=none) (k:=0) (c:=0) (s:=false) (y:=0) (B:=none) (k' :=0) (c' :=0) (t:=false) HWR.out (Nat.le_refl _))
         | true=>
           have HPB:=hide hpb2
           rw [hpb2] at hpb
           clear hpb2
           cases zb1:(b.toList == [48]) with
           | true=>
             have HP:=hide (read_no3 HI.out.symm (.inr (.inl (by have:=HB.out;rw [if_pos rfl] at this;rw [← this];exact of_decide_eq_true (zb.symm.trans zb1)))))
             clear za zb zc
             go_wp2_with fail
             refine (hpb _).mono ?_
             rintro e w2 ⟨rfl,rfl⟩
             go_wp2_with fail
             have kR2:=rat_blk (x:=0) (A:=none) (k:=0) (c:=0) (s:=false) (y:=0) (B:=none) (k' :=0) (c' :=0) (t:=false) HKR.out
             have e0:=kR2.cell 0
             have e1:=kR2.cell 1
             have e2:=kR2.cell 2
             have e3:=kR2.cell 3
             have e4:=kR2.cell 4
             have e5:=kR2.cell 5
             simp only [World.rat] at e0 e1 e2 e3 e4 e5
             simp at e0 e1 e2 e3 e4 e5
             refine bodyPost_ret (v:=.tuple #[.agg #[.int .i64 0,.slice none 0 0,.bool false,.int .i64 0,.slice none 0 0,.bool false],.bool false]) (by simp [results,Tryz.results45,go_sem,e0,e1,e2,e3,e4,e5]) rfl ?_
             exact RetRat.no HP.out ⟨_,_,_,_,_,_,_,_,_,_,rfl⟩ (rat_below (x:=0) (A:=none) (k:=0) (c:=0) (s:=false) (y:=0) (B:=none) (k' :=0) (c' :=0) (t:=false) HWR.out (Nat.le_refl _))
           | false=>
             cases zc1:(b.toList == [49]) with
             | true=>
               have HP:=hide (read_no3 HI.out.symm (.inr (.inr (.inl (by have:=HB.out;rw [if_pos rfl] at this;rw [← this];exact of_decide_eq_true (zc.symm.trans zc1))))))
               clear za zb zc
               go_wp2_with fail
               refine (hpb _).mono ?_
               rintro e w2 ⟨rfl,rfl⟩
               go_wp2_with fail
               have kR2:=rat_blk (x:=0) (A:=none) (k:=0) (c:=0) (s:=false) (y:=0) (B:=none) (k' :=0) (c' :=0) (t:=false) HKR.out
               have e0:=kR2.cell 0
               have e1:=kR2.cell 1
               have e2:=kR2.cell 2
               have e3:=kR2.cell 3
               have e4:=kR2.cell 4
               have e5:=kR2.cell 5
               simp only [World.rat] at e0 e1 e2 e3 e4 e5
               simp at e0 e1 e2 e3 e4 e5
               refine bodyPost_ret (v:=.tuple #[.agg #[.int .i64 0,.slice none 0 0,.bool false,.int .i64 0,.slice none 0 0,.bool false],.bool false]) (by simp [results,Tryz.results45,go_sem,e0,e1,e2,e3,e4,e5]) rfl ?_
               exact RetRat.no HP.out ⟨_,_,_,_,_,_,_,_,_,_,rfl⟩ (rat_below (x:=0) (A:=none) (k:=0) (c:=0) (s:=false) (y:=0) (B:=none) (k' :=0) (c' :=0) (t:=false) HWR.out (Nat.le_refl _))
             | false=>
               have HBB:=hide (show bts b=behind 47 (unsigned (bts s)) by rw [HB.out];rfl)
               have HD:=hide (plain_all HPB.out)
               have HP:=hide (read_quot HPL.out (fun h=>by rw [← HN.out] at h;cases h) HI.out.symm (by rw [← HBB.out];exact HPB.out) (fun h=>by have:=zb.symm.trans zb1;rw [decide_eq_true (HBB.out.trans h)] at this;cases this) (fun h=>by have:=zc.symm.trans zc1;rw [decide_eq_true (HBB.out.trans h)] at this;cases this))
               have HNZ:=hide (plain_ne_zero (l:=behind 47 (unsigned (bts s))) (by rw [← HBB.out];exact HPB.out) (fun h=>by have:=zb.symm.trans zb1;rw [decide_eq_true (HBB.out.trans h)] at this;cases this))
               have HLD:=hide (plain_len (l:=behind 47 (unsigned (bts s))) (by rw [← HBB.out];exact HPB.out))
               have HLN:=hide (plain_len HPL.out)
               have HC:=hide (plain_all HPL.out)
               rw [← HN.out] at HP
               have HAS:=hide (show a.size ≤ 50000 by rw [← bts_length,HA.out];exact HC.out.2)
               have HBS:=hide (show b.size ≤ 50000 by rw [← bts_length];exact HD.out.2)
               clear za zb zc
               go_wp2_with fail
               refine (hpb _).mono ?_
               rintro e w2 ⟨rfl,rfl⟩
               clear hpb
               obtain ⟨dn,hdn⟩:∃ dn,dn=decVal (behind 47 (unsigned (bts s))):=⟨_,rfl⟩
               obtain ⟨nn,hnn⟩:∃ nn,nn=decVal (ahead 47 (unsigned (bts s))):=⟨_,rfl⟩
               rw [← hdn, ← hnn] at HP
               rw [← hdn] at HNZ HLD
               rw [← hnn] at HLN
               have HDN:=hide hdn
               have HNN:=hide hnn
               clear hdn hnn
               go_wp2_with fail
               refine (natOf_any a _ (by rw [HA.out];exact HC.out.1) HAS.out).mono ?_
               rintro e w2 ⟨v,rfl,hv,hb2⟩
               rw [HA.out, ← HNN.out] at hv
               have HV:=hide hv
               have HKR2:=hide (HKR.out.below hb2 lR)
               have HWR2:=hide (ext HWR.out hb2)
               clear hv hb2 r0 r1 r2 r3 r4 r5 f0 f1 f2 f3 f4 f5
               go_wp2_with fail
               refine (made_any false v _ w2 HV.out).mono ?_
               rintro e w3 ⟨v3,rfl,hv3,hb3⟩
               obtain ⟨x',A',k',c',ng',rfl,_,_,_⟩:=hv3.form
               have hb4:=ext_alloc w3 (.cells #[.int .i64 x',.slice A' k' c',.bool ng'] 65)
               have HV3:=hide (hv3.below hb4)
               have kR3:=(HKR2.out.below hb3 HKR2.out.lt).below hb4 (HKR2.out.below hb3 HKR2.out.lt).lt
               have HWR3:=hide (ext (ext HWR2.out hb3) hb4)
               have HKR3:=hide kR3
               have kX:=Blk.new w3 65 #[.int .i64 x',.slice A' k' c',.bool ng']
               have HKX:=hide kX
               have lgx:w.heap.size<w3.heap.size:=(HKR2.out.below hb3 HKR2.out.lt).lt
               clear hb3 hv3 hb4 kR3 kX lR
               go_wp2_with fail
               generalize hgx:w3.heap.size=gx at HKX lgx ⊢
               generalize w3.alloc (.cells #[.int .i64 x',.slice A' k' c',.bool ng'] 65)=W3 at HV3 HKR3 HWR3 HKX ⊢
               clear hgx
               refine (natOf_any b _ HD.out.1 HBS.out).mono ?_
               rintro e w4 ⟨v4,rfl,hv4,hb4⟩
               rw [HBB.out, ← HDN.out] at hv4
               have HV4:=hide hv4
               have HV3a:=hide (HV3.out.below hb4)
               have HKR4:=hide (HKR3.out.below hb4 HKR3.out.lt)
               have HKX4:=hide (HKX.out.below hb4 HKX.out.lt)
               have HWR4:=hide (ext HWR3.out hb4)
               clear hv4 hb4
               go_wp2_with fail
               refine (made_any false v4 _ w4 HV4.out).mono ?_
               rintro e w5 ⟨v5,rfl,hv5,hb5⟩
               obtain ⟨y',B',m',d',nh',rfl,_,_,_⟩:=hv5.form
               have hb6:=ext_alloc w5 (.cells #[.int .i64 y',.slice B' m' d',.bool nh'] 65)
               have hbb:=ext hb5 hb6
               have HV5:=hide (hv5.below hb6)
               have HV3b:=hide (HV3a.out.below hbb)
               have HKR5:=hide (HKR4.out.below hbb HKR4.out.lt)
               have HKX5:=hide (HKX4.out.below hbb HKX4.out.lt)
               have HWR5:=hide (ext HWR4.out hbb)
               have HKY5:=hide (Blk.new w5 65 #[.int .i64 y',.slice B' m' d',.bool nh'])
               have lgy:w.heap.size<w5.heap.size:=(HKR4.out.below hb5 HKR4.out.lt).lt
               have x0:=HKX5.out.cell 0
               have x1:=HKX5.out.cell 1
               have x2:=HKX5.out.cell 2
               simp at x0 x1 x2
               clear hb5 hb6 hbb hv5
               go_wp2_with fail
               generalize hgy:w5.heap.size=gy at HKY5 lgy ⊢
               generalize w5.alloc (.cells #[.int .i64 y',.slice B' m' d',.bool nh'] 65)=W5 at HV5 HV3b HKR5 HKX5 HWR5 HKY5 x0 x1 x2 ⊢
               clear hgy
               refine (over_any _ _ (signed false nn) (signed false dn) _ HV3b.out HV5.out (by have:=HNZ.out;unfold signed;simp;omega) (Nat.le_trans (signed_len HLN.out) (by omega)) (Nat.le_trans (signed_len HLD.out) (by omega))).mono ?_
               rintro e w6 ⟨v6,rfl,hq,hb7⟩
               rw [signed_ratOf] at hq
               obtain ⟨q,hqq⟩:∃ q,q=ratOf false nn dn:=⟨_,rfl⟩
               rw [← hqq] at hq HP
               obtain ⟨x5,A5,k5,c5,n5,x6,A6,k6,c6,n6,rfl,hq1,hq2⟩:=hq
               have hb8:=ext_alloc w6 (.cells #[.int .i64 x5,.slice A5 k5 c5,.bool n5,.int .i64 x6,.slice A6 k6 c6,.bool n6] 67)
               have hbb:=ext hb7 hb8
               have HQ1:=hide (hq1.below hb8)
               have HQ2:=hide (hq2.below hb8)
               have HV7:=hide (HV5.out.below hbb)
               have HKR7:=hide (show ResIs _ w.heap.size from ⟨_,_,_,_,_,_,_,_,_,_,HKR5.out.below hbb HKR5.out.lt⟩)
               have HKY7:=hide (HKY5.out.below hbb HKY5.out.lt)
               have HWR7:=hide (ext HWR5.out hbb)
               have HKQ:=hide (Blk.new w6 67 #[.int .i64 x5,.slice A5 k5 c5,.bool n5,.int .i64 x6,.slice A6 k6 c6,.bool n6])
               have lgq:w.heap.size<w6.heap.size:=(HKR5.out.below hb7 HKR5.out.lt).lt
               have HLQ:=hide (show len 4294967296 (q.den:Int).natAbs ≤ 67108864 by
                rw [hqq, ← signed_ratOf]
                have h9:=over_parts (zn:=signed false nn) (zd:=signed false dn) (by have:=HNZ.out;unfold signed;simp;omega) (Nat.le_trans (signed_len HLD.out) (by omega))
                rw [h9.2.1]
                refine Nat.le_trans (len_mono (by omega) (Int.natAbs_tdiv_le_natAbs _ _)) (Nat.le_trans (signed_len HLD.out) (by omega)))
               clear hb7 hb8 hbb hq1 hq2 x0 x1 x2 HKX HKX4 HKX5 HKR3 HKR4 HKR5 HKY5 HV3 HV3a HV3b HV5 HWR HWR2 HWR3 HWR4 HWR5 HKR HKR2 hqq
               go_wp2_with fail
               generalize hgq:w6.heap.size=gq at HKQ lgq ⊢
               generalize w6.alloc (.cells #[.int .i64 x5,.slice A5 k5 c5,.bool n5,.int .i64 x6,.slice A6 k6 c6,.bool n6] 67)=W7 at HQ1 HQ2 HV7 HKR7 HKY7 HWR7 HKQ ⊢
               clear hgq
               have hlq:=HKQ.out.lt
               have hly:=HKY7.out.lt
               have q0:=HKQ.out.cell 0
               have q1:=HKQ.out.cell 1
               have q2:=HKQ.out.cell 2
               have q3:=HKQ.out.cell 3
               have q4:=HKQ.out.cell 4
               have q5:=HKQ.out.cell 5
               have y0:=HKY7.out.cell 0
               have y1:=HKY7.out.cell 1
               have y2:=HKY7.out.cell 2
               simp at q0 q1 q2 q3 q4 q5 y0 y1 y2
               have HRES:=hide (show ResIs W7.drew w.heap.size from HKR7.out)
               have HWX:=hide (show Below w.heap.size w W7.drew from below_drewN HWR7.out 1)
               have HY1:=hide (show NumIs W7.drew _ q.num from HQ1.out.below (ext_drewN W7 1))
               have HY2:=hide (show NumIs W7.drew _ (q.den:Int) from HQ2.out.below (ext_drewN W7 1))
               have HY3:=hide (show NumIs W7.drew _ (signed false dn) from HV7.out.below (ext_drewN W7 1))
               clear HQ1 HQ2 HV7
               go_region_held3 (fun w' =>w'.cell? ⟨gq,0,none⟩=some (.int .i64 x5) ∧ w'.cell? ⟨gq,1,none⟩=some (.slice A5 k5 c5) ∧ w'.cell? ⟨gq,2,none⟩=some (.bool n5) ∧ w'.cell? ⟨gq,3,none⟩=some (.int .i64 x6) ∧ w'.cell? ⟨gq,4,none⟩=some (.slice A6 k6 c6) ∧ w'.cell? ⟨gq,5,none⟩=some (.bool n6) ∧
                w'.cell? ⟨gy,0,none⟩=some (.int .i64 y') ∧ w'.cell? ⟨gy,1,none⟩=some (.slice B' m' d') ∧ w'.cell? ⟨gy,2,none⟩=some (.bool nh') ∧ gq<w'.heap.size ∧ gy<w'.heap.size ∧ Hid (ResIs w' w.heap.size) ∧ Hid (Below w.heap.size w w') ∧ Hid (NumIs w' (.agg #[.int .i64 x5,.slice A5 k5 c5,.bool n5]) q.num) ∧ Hid (NumIs w' (.agg #[.int .i64 x6,.slice A6 k6 c6,.bool n6]) (q.den:Int)) ∧ Hid (NumIs w' (.agg #[.int .i64 y',.slice B' m' d',.bool nh']) (signed false dn)))
                (first
                  | with_reducible exact ⟨by go_keep,by go_keep,by go_keep,by go_keep,by go_keep,by go_keep,by go_keep,by go_keep,by go_keep,by first | (simp;done) | (simp;assumption),by first | (simp;done) | (simp;assumption),HRES,HWX,HY1,HY2,HY3⟩
                  | (go_split_ands;with_reducible exact ⟨rat_cell (by omega) (by assumption),rat_cell (by omega) (by assumption),rat_cell (by omega) (by assumption),rat_cell (by omega) (by assumption),rat_cell (by omega) (by assumption),rat_cell (by omega) (by assumption),rat_cell (by omega) (by assumption),rat_cell (by omega) (by assumption),rat_cell (by omega) (by assumption),rat_size (by assumption),rat_size (by assumption),hid_res_rat (by assumption),hid_below_rat (by omega) (by assumption),hid_num_rat (by assumption) (by assumption),hid_num_rat (by assumption) (by assumption),hid_num_rat (by assumption) (by assumption)⟩)
                  | (go_split_ands;with_reducible exact ⟨cell_keep (by assumption) (by assumption) (by assumption),cell_keep (by assumption) (by assumption) (by assumption),cell_keep (by assumption) (by assumption) (by assumption),cell_keep (by assumption) (by assumption) (by assumption),cell_keep (by assumption) (by assumption) (by assumption),cell_keep (by assumption) (by assumption) (by assumption),cell_keep (by assumption) (by assumption) (by assumption),cell_keep (by assumption) (by assumption) (by assumption),cell_keep (by assumption) (by assumption) (by assumption),size_keep (by assumption) (by assumption),size_keep (by assumption) (by assumption),hid_res (by assumption) (by assumption),hid_below (by assumption) (by assumption),hid_num (by assumption) (by assumption),hid_num (by assumption) (by assumption),hid_num (by assumption) (by assumption)⟩)
                  | go_keep)
                (first
                  | (go_at_call 93;refine (cmp_any _ _ (q.den:Int) (signed false dn) _ (unhide (by go_split_ands;assumption)) (unhide (by go_split_ands;assumption)) HLQ.out (Nat.le_trans (signed_len HLD.out) (by omega))).mono ?_;rintro e wo ⟨rfl,hbo⟩;obtain ⟨xr,Ar,kr,cr,sr,yr,Br,krx,crx,tr,kR⟩:=(hid_res (g:=w.heap.size) hbo (by go_split_ands;assumption)).out;have r0:=kR.cell 0;have r1:=kR.cell 1;have r2:=kR.cell 2;have r3:=kR.cell 3;have r4:=kR.cell 4;have r5:=kR.cell 5;have f0:=kR.frozen 0;have f1:=kR.frozen 1;have f2:=kR.frozen 2;have f3:=kR.frozen 3;have f4:=kR.frozen 4;have f5:=kR.frozen 5;simp at r0 r1 r2 r3 r4 r5;have HKR:=hide kR;clear kR))
               all_goals
                go_split_ands
                have kR2:=rat_blk (x:=x5) (A:=A5) (k:=k5) (c:=c5) (s:=n5) (y:=x6) (B:=A6) (k' :=k6) (c' :=c6) (t:=n6) HKR.out
                have hR1:=unhide (by assumption:Hid (NumIs (World.rat wo w.heap.size x5 A5 k5 c5 n5 x6 A6 k6 c6 n6) (.agg #[.int .i64 x5,.slice A5 k5 c5,.bool n5]) q.num))
                have hR2:=unhide (by assumption:Hid (NumIs (World.rat wo w.heap.size x5 A5 k5 c5 n5 x6 A6 k6 c6 n6) (.agg #[.int .i64 x6,.slice A6 k6 c6,.bool n6]) (q.den:Int)))
                have hRW:=unhide (by assumption:Hid (Below w.heap.size w (World.rat wo w.heap.size x5 A5 k5 c5 n5 x6 A6 k6 c6 n6)))
                have e0:=kR2.cell 0
                have e1:=kR2.cell 1
                have e2:=kR2.cell 2
                have e3:=kR2.cell 3
                have e4:=kR2.cell 4
                have e5:=kR2.cell 5
                simp only [World.rat] at e0 e1 e2 e3 e4 e5
                simp at e0 e1 e2 e3 e4 e5
                go_wp2
                refine bodyPost_ret (v:=.tuple #[.agg #[.int .i64 x5,.slice A5 k5 c5,.bool n5,.int .i64 x6,.slice A6 k6 c6,.bool n6],.bool (cmpOf (q.den:Int) (signed false dn) == 0)]) (by simp [results,Tryz.results45,go_sem,e0,e1,e2,e3,e4,e5]) rfl ?_
                exact RetRat.maybe HP.out ⟨_,_,_,_,_,_,_,_,_,_,rfl,hR1,hR2⟩ hRW
   | true=>
     cases za1:(a.toList == [48]) with
     | true=>
       have HP:=hide (read_no2 HN.out.symm (of_decide_eq_true (by rw [← za];exact za1)))
       clear za zb zc hpb
       go_wp2_with fail
       have kR2:=rat_blk (x:=0) (A:=none) (k:=0) (c:=0) (s:=false) (y:=0) (B:=none) (k' :=0) (c' :=0) (t:=false) HKR.out
       have e0:=kR2.cell 0
       have e1:=kR2.cell 1
       have e2:=kR2.cell 2
       have e3:=kR2.cell 3
       have e4:=kR2.cell 4
       have e5:=kR2.cell 5
       simp only [World.rat] at e0 e1 e2 e3 e4 e5
       simp at e0 e1 e2 e3 e4 e5
       refine bodyPost_ret (v:=.tuple #[.agg #[.int .i64 0,.slice none 0 0,.bool false,.int .i64 0,.slice none 0 0,.bool false],.bool false]) (by simp [results,Tryz.results45,go_sem,e0,e1,e2,e3,e4,e5]) rfl ?_
       exact RetRat.no HP.out ⟨_,_,_,_,_,_,_,_,_,_,rfl⟩ (rat_below (x:=0) (A:=none) (k:=0) (c:=0) (s:=false) (y:=0) (B:=none) (k' :=0) (c' :=0) (t:=false) HWR.out (Nat.le_refl _))
     | false=>
       cases is_ with
       | false=>
         have HP:=hide (read_whole HPL.out (fun _ h=>by have:=za.symm.trans za1;rw [decide_eq_true h] at this;cases this) HI.out.symm)
         have HC:=hide (plain_all HPL.out)
         rw [← HN.out] at HP
         have HAS:=hide (show a.size ≤ 50000 by rw [← bts_length,HA.out];exact HC.out.2)
         clear za zb zc hpb
         go_wp2_with fail
         refine (natOf_any a _ (by rw [HA.out];exact HC.out.1) HAS.out).mono ?_
         rintro e w2 ⟨v,rfl,hv,hb2⟩
         rw [HA.out] at hv
         have HV:=hide hv
         have HKR2:=hide (HKR.out.below hb2 lR)
         have HWR2:=hide (ext HWR.out hb2)
         clear hv hb2 r0 r1 r2 r3 r4 r5 f0 f1 f2 f3 f4 f5
         go_wp2_with fail
         refine (made_any true v _ w2 HV.out).mono ?_
         rintro e w3 ⟨v3,rfl,hv3,hb3⟩
         obtain ⟨x',A',k',c',ng',rfl,_,_,_⟩:=hv3.form
         have hb4:=ext_alloc w3 (.cells #[.int .i64 x',.slice A' k' c',.bool ng'] 65)
         have HV3:=hide (hv3.below hb4)
         have kR3:=(HKR2.out.below hb3 HKR2.out.lt).below hb4 (HKR2.out.below hb3 HKR2.out.lt).lt
         have HWR3:=hide (ext (ext HWR2.out hb3) hb4)
         have HKR3:=hide kR3
         have r0:=kR3.cell 0
         have r1:=kR3.cell 1
         have r2:=kR3.cell 2
         have r3:=kR3.cell 3
         have r4:=kR3.cell 4
         have r5:=kR3.cell 5
         have f0:=kR3.frozen 0
         have f1:=kR3.frozen 1
         have f2:=kR3.frozen 2
         have f3:=kR3.frozen 3
         have f4:=kR3.frozen 4
         have f5:=kR3.frozen 5
         simp at r0 r1 r2 r3 r4 r5
         have kX:=Blk.new w3 65 #[.int .i64 x',.slice A' k' c',.bool ng']
         have g0:=kX.cell 0
         have g1:=kX.cell 1
         have g2:=kX.cell 2
         simp at g0 g1 g2
         clear hb3 hv3 hb4 kR3 kX lR
         go_wp2_with fail
         have kR4:=rat_blk (x:=x') (A:=A') (k:=k') (c:=c') (s:=ng') (y:=1) (B:=none) (k' :=0) (c' :=0) (t:=false) HKR3.out
         have e0:=kR4.cell 0
         have e1:=kR4.cell 1
         have e2:=kR4.cell 2
         have e3:=kR4.cell 3
         have e4:=kR4.cell 4
         have e5:=kR4.cell 5
         simp only [World.rat] at e0 e1 e2 e3 e4 e5
         simp at e0 e1 e2 e3 e4 e5
         refine bodyPost_ret (v:=.tuple #[.agg #[.int .i64 x',.slice A' k' c',.bool ng',.int .i64 1,.slice none 0 0,.bool false],.bool true]) (by simp [results,Tryz.results45,go_sem,e0,e1,e2,e3,e4,e5]) rfl ?_
         refine RetRat.yes HP.out ⟨_,_,_,_,_,_,_,_,_,_,rfl,?_,?_⟩ (rat_below HWR3.out (Nat.le_refl _))
         · rw [(ratOf_one _ _).1]
           exact rat_stored HV3.out HKR3.out
         · rw [(ratOf_one _ _).2]
           exact num_one _
       | true=>
         cases hpb2:plainDigs (bts b) with
         | false=>
           have HP:=hide (read_no3 HI.out.symm (.inl (by have:=HB.out;rw [if_pos rfl] at this;rw [← this];exact hpb2)))
           rw [hpb2] at hpb
           clear hpb2 za zb zc
           go_wp2_with fail
           refine (hpb _).mono ?_
           rintro e w2 ⟨rfl,rfl⟩
           go_wp2_with fail
           have kR2:=rat_blk (x:=0) (A:=none) (k:=0) (c:=0) (s:=false) (y:=0) (B:=none) (k' :=0) (c' :=0) (t:=false) HKR.out
           have e0:=kR2.cell 0
           have e1:=kR2.cell 1
           have e2:=kR2.cell 2
           have e3:=kR2.cell 3
           have e4:=kR2.cell 4
           have e5:=kR2.cell 5
           simp only [World.rat] at e0 e1 e2 e3 e4 e5
           simp at e0 e1 e2 e3 e4 e5
           refine bodyPost_ret (v:=.tuple #[.agg #[.int .i64 0,.slice none 0 0,.bool false,.int .i64 0,.slice none 0 0,.bool false],.bool false]) (by simp [results,Tryz.results45,go_sem,e0,e1,e2,e3,e4,e5]) rfl ?_
           exact RetRat.no HP.out ⟨_,_,_,_,_,_,_,_,_,_,rfl⟩ (rat_below (x:=0) (A:=none) (k:=0) (c:=0) (s:=false) (y:=0) (B:=none) (k' :=0) (c' :=0) (t:=false) HWR.out (Nat.le_refl _))
         | true=>
           have HPB:=hide hpb2
           rw [hpb2] at hpb
           clear hpb2
           cases zb1:(b.toList == [48]) with
           | true=>
             have HP:=hide (read_no3 HI.out.symm (.inr (.inl (by have:=HB.out;rw [if_pos rfl] at this;rw [← this];exact of_decide_eq_true (zb.symm.trans zb1)))))
             clear za zb zc
             go_wp2_with fail
             refine (hpb _).mono ?_
             rintro e w2 ⟨rfl,rfl⟩
             go_wp2_with fail
             have kR2:=rat_blk (x:=0) (A:=none) (k:=0) (c:=0) (s:=false) (y:=0) (B:=none) (k' :=0) (c' :=0) (t:=false) HKR.out
             have e0:=kR2.cell 0
             have e1:=kR2.cell 1
             have e2:=kR2.cell 2
             have e3:=kR2.cell 3
             have e4:=kR2.cell 4
             have e5:=kR2.cell 5
             simp only [World.rat] at e0 e1 e2 e3 e4 e5
             simp at e0 e1 e2 e3 e4 e5
             refine bodyPost_ret (v:=.tuple #[.agg #[.int .i64 0,.slice none 0 0,.bool false,.int .i64 0,.slice none 0 0,.bool false],.bool false]) (by simp [results,Tryz.results45,go_sem,e0,e1,e2,e3,e4,e5]) rfl ?_
             exact RetRat.no HP.out ⟨_,_,_,_,_,_,_,_,_,_,rfl⟩ (rat_below (x:=0) (A:=none) (k:=0) (c:=0) (s:=false) (y:=0) (B:=none) (k' :=0) (c' :=0) (t:=false) HWR.out (Nat.le_refl _))
           | false=>
             cases zc1:(b.toList == [49]) with
             | true=>
               have HP:=hide (read_no3 HI.out.symm (.inr (.inr (.inl (by have:=HB.out;rw [if_pos rfl] at this;rw [← this];exact of_decide_eq_true (zc.symm.trans zc1))))))
               clear za zb zc
               go_wp2_with fail
               refine (hpb _).mono ?_
               rintro e w2 ⟨rfl,rfl⟩
               go_wp2_with fail
               have kR2:=rat_blk (x:=0) (A:=none) (k:=0) (c:=0) (s:=false) (y:=0) (B:=none) (k' :=0) (c' :=0) (t:=false) HKR.out
               have e0:=kR2.cell 0
               have e1:=kR2.cell 1
               have e2:=kR2.cell 2
               have e3:=kR2.cell 3
               have e4:=kR2.cell 4
               have e5:=kR2.cell 5
               simp only [World.rat] at e0 e1 e2 e3 e4 e5
               simp at e0 e1 e2 e3 e4 e5
               refine bodyPost_ret (v:=.tuple #[.agg #[.int .i64 0,.slice none 0 0,.bool false,.int .i64 0,.slice none 0 0,.bool false],.bool false]) (by simp [results,Tryz.results45,go_sem,e0,e1,e2,e3,e4,e5]) rfl ?_
               exact RetRat.no HP.out ⟨_,_,_,_,_,_,_,_,_,_,rfl⟩ (rat_below (x:=0) (A:=none) (k:=0) (c:=0) (s:=false) (y:=0) (B:=none) (k' :=0) (c' :=0) (t:=false) HWR.out (Nat.le_refl _))
             | false=>
               have HBB:=hide (show bts b=behind 47 (unsigned (bts s)) by rw [HB.out];rfl)
               have HD:=hide (plain_all HPB.out)
               have HP:=hide (read_quot HPL.out (fun _ h=>by have:=za.symm.trans za1;rw [decide_eq_true h] at this;cases this) HI.out.symm (by rw [← HBB.out];exact HPB.out) (fun h=>by have:=zb.symm.trans zb1;rw [decide_eq_true (HBB.out.trans h)] at this;cases this) (fun h=>by have:=zc.symm.trans zc1;rw [decide_eq_true (HBB.out.trans h)] at this;cases this))
               have HNZ:=hide (plain_ne_zero (l:=behind 47 (unsigned (bts s))) (by rw [← HBB.out];exact HPB.out) (fun h=>by have:=zb.symm.trans zb1;rw [decide_eq_true (HBB.out.trans h)] at this;cases this))
               have HLD:=hide (plain_len (l:=behind 47 (unsigned (bts s))) (by rw [← HBB.out];exact HPB.out))
               have HLN:=hide (plain_len HPL.out)
               have HC:=hide (plain_all HPL.out)
               rw [← HN.out] at HP
               have HAS:=hide (show a.size ≤ 50000 by rw [← bts_length,HA.out];exact HC.out.2)
               have HBS:=hide (show b.size ≤ 50000 by rw [← bts_length];exact HD.out.2)
               clear za zb zc
               go_wp2_with fail
               refine (hpb _).mono ?_
               rintro e w2 ⟨rfl,rfl⟩
               clear hpb
               obtain ⟨dn,hdn⟩:∃ dn,dn=decVal (behind 47 (unsigned (bts s))):=⟨_,rfl⟩
               obtain ⟨nn,hnn⟩:∃ nn,nn=decVal (ahead 47 (unsigned (bts s))):=⟨_,rfl⟩
               rw [← hdn, ← hnn] at HP
               rw [← hdn] at HNZ HLD
               rw [← hnn] at HLN
               have HDN:=hide hdn
               have HNN:=hide hnn
               clear hdn hnn
               go_wp2_with fail
               refine (natOf_any a _ (by rw [HA.out];exact HC.out.1) HAS.out).mono ?_
               rintro e w2 ⟨v,rfl,hv,hb2⟩
               rw [HA.out, ← HNN.out] at hv
               have HV:=hide hv
               have HKR2:=hide (HKR.out.below hb2 lR)
               have HWR2:=hide (ext HWR.out hb2)
               clear hv hb2 r0 r1 r2 r3 r4 r5 f0 f1 f2 f3 f4 f5
               go_wp2_with fail
               refine (made_any true v _ w2 HV.out).mono ?_
               rintro e w3 ⟨v3,rfl,hv3,hb3⟩
               obtain ⟨x',A',k',c',ng',rfl,_,_,_⟩:=hv3.form
               have hb4:=ext_alloc w3 (.cells #[.int .i64 x',.slice A' k' c',.bool ng'] 65)
               have HV3:=hide (hv3.below hb4)
               have kR3:=(HKR2.out.below hb3 HKR2.out.lt).below hb4 (HKR2.out.below hb3 HKR2.out.lt).lt
               have HWR3:=hide (ext (ext HWR2.out hb3) hb4)
               have HKR3:=hide kR3
               have kX:=Blk.new w3 65 #[.int .i64 x',.slice A' k' c',.bool ng']
               have HKX:=hide kX
               have lgx:w.heap.size<w3.heap.size:=(HKR2.out.below hb3 HKR2.out.lt).lt
               clear hb3 hv3 hb4 kR3 kX lR
               go_wp2_with fail
               generalize hgx:w3.heap.size=gx at HKX lgx ⊢
               generalize w3.alloc (.cells #[.int .i64 x',.slice A' k' c',.bool ng'] 65)=W3 at HV3 HKR3 HWR3 HKX ⊢
               clear hgx
               refine (natOf_any b _ HD.out.1 HBS.out).mono ?_
               rintro e w4 ⟨v4,rfl,hv4,hb4⟩
               rw [HBB.out, ← HDN.out] at hv4
               have HV4:=hide hv4
               have HV3a:=hide (HV3.out.below hb4)
               have HKR4:=hide (HKR3.out.below hb4 HKR3.out.lt)
               have HKX4:=hide (HKX.out.below hb4 HKX.out.lt)
               have HWR4:=hide (ext HWR3.out hb4)
               clear hv4 hb4
               go_wp2_with fail
               refine (made_any false v4 _ w4 HV4.out).mono ?_
               rintro e w5 ⟨v5,rfl,hv5,hb5⟩
               obtain ⟨y',B',m',d',nh',rfl,_,_,_⟩:=hv5.form
               have hb6:=ext_alloc w5 (.cells #[.int .i64 y',.slice B' m' d',.bool nh'] 65)
               have hbb:=ext hb5 hb6
               have HV5:=hide (hv5.below hb6)
               have HV3b:=hide (HV3a.out.below hbb)
               have HKR5:=hide (HKR4.out.below hbb HKR4.out.lt)
               have HKX5:=hide (HKX4.out.below hbb HKX4.out.lt)
               have HWR5:=hide (ext HWR4.out hbb)
               have HKY5:=hide (Blk.new w5 65 #[.int .i64 y',.slice B' m' d',.bool nh'])
               have lgy:w.heap.size<w5.heap.size:=(HKR4.out.below hb5 HKR4.out.lt).lt
               have x0:=HKX5.out.cell 0
               have x1:=HKX5.out.cell 1
               have x2:=HKX5.out.cell 2
               simp at x0 x1 x2
               clear hb5 hb6 hbb hv5
               go_wp2_with fail
               generalize hgy:w5.heap.size=gy at HKY5 lgy ⊢
               generalize w5.alloc (.cells #[.int .i64 y',.slice B' m' d',.bool nh'] 65)=W5 at HV5 HV3b HKR5 HKX5 HWR5 HKY5 x0 x1 x2 ⊢
               clear hgy
               refine (over_any _ _ (signed true nn) (signed false dn) _ HV3b.out HV5.out (by have:=HNZ.out;unfold signed;simp;omega) (Nat.le_trans (signed_len HLN.out) (by omega)) (Nat.le_trans (signed_len HLD.out) (by omega))).mono ?_
               rintro e w6 ⟨v6,rfl,hq,hb7⟩
               rw [signed_ratOf] at hq
               obtain ⟨q,hqq⟩:∃ q,q=ratOf true nn dn:=⟨_,rfl⟩
               rw [← hqq] at hq HP
               obtain ⟨x5,A5,k5,c5,n5,x6,A6,k6,c6,n6,rfl,hq1,hq2⟩:=hq
               have hb8:=ext_alloc w6 (.cells #[.int .i64 x5,.slice A5 k5 c5,.bool n5,.int .i64 x6,.slice A6 k6 c6,.bool n6] 67)
               have hbb:=ext hb7 hb8
               have HQ1:=hide (hq1.below hb8)
               have HQ2:=hide (hq2.below hb8)
               have HV7:=hide (HV5.out.below hbb)
               have HKR7:=hide (show ResIs _ w.heap.size from ⟨_,_,_,_,_,_,_,_,_,_,HKR5.out.below hbb HKR5.out.lt⟩)
               have HKY7:=hide (HKY5.out.below hbb HKY5.out.lt)
               have HWR7:=hide (ext HWR5.out hbb)
               have HKQ:=hide (Blk.new w6 67 #[.int .i64 x5,.slice A5 k5 c5,.bool n5,.int .i64 x6,.slice A6 k6 c6,.bool n6])
               have lgq:w.heap.size<w6.heap.size:=(HKR5.out.below hb7 HKR5.out.lt).lt
               have HLQ:=hide (show len 4294967296 (q.den:Int).natAbs ≤ 67108864 by
                rw [hqq, ← signed_ratOf]
                have h9:=over_parts (zn:=signed true nn) (zd:=signed false dn) (by have:=HNZ.out;unfold signed;simp;omega) (Nat.le_trans (signed_len HLD.out) (by omega))
                rw [h9.2.1]
                refine Nat.le_trans (len_mono (by omega) (Int.natAbs_tdiv_le_natAbs _ _)) (Nat.le_trans (signed_len HLD.out) (by omega)))
               clear hb7 hb8 hbb hq1 hq2 x0 x1 x2 HKX HKX4 HKX5 HKR3 HKR4 HKR5 HKY5 HV3 HV3a HV3b HV5 HWR HWR2 HWR3 HWR4 HWR5 HKR HKR2 hqq
               go_wp2_with fail
               generalize hgq:w6.heap.size=gq at HKQ lgq ⊢
               generalize w6.alloc (.cells #[.int .i64 x5,.slice A5 k5 c5,.bool n5,.int .i64 x6,.slice A6 k6 c6,.bool n6] 67)=W7 at HQ1 HQ2 HV7 HKR7 HKY7 HWR7 HKQ ⊢
               clear hgq
               have hlq:=HKQ.out.lt
               have hly:=HKY7.out.lt
               have q0:=HKQ.out.cell 0
               have q1:=HKQ.out.cell 1
               have q2:=HKQ.out.cell 2
               have q3:=HKQ.out.cell 3
               have q4:=HKQ.out.cell 4
               have q5:=HKQ.out.cell 5
               have y0:=HKY7.out.cell 0
               have y1:=HKY7.out.cell 1
               have y2:=HKY7.out.cell 2
               simp at q0 q1 q2 q3 q4 q5 y0 y1 y2
               have HRES:=hide (show ResIs W7.drew w.heap.size from HKR7.out)
               have HWX:=hide (show Below w.heap.size w W7.drew from below_drewN HWR7.out 1)
               have HY1:=hide (show NumIs W7.drew _ q.num from HQ1.out.below (ext_drewN W7 1))
               have HY2:=hide (show NumIs W7.drew _ (q.den:Int) from HQ2.out.below (ext_drewN W7 1))
               have HY3:=hide (show NumIs W7.drew _ (signed false dn) from HV7.out.below (ext_drewN W7 1))
               clear HQ1 HQ2 HV7
               go_region_held3 (fun w' =>w'.cell? ⟨gq,0,none⟩=some (.int .i64 x5) ∧ w'.cell? ⟨gq,1,none⟩=some (.slice A5 k5 c5) ∧ w'.cell? ⟨gq,2,none⟩=some (.bool n5) ∧ w'.cell? ⟨gq,3,none⟩=some (.int .i64 x6) ∧ w'.cell? ⟨gq,4,none⟩=some (.slice A6 k6 c6) ∧ w'.cell? ⟨gq,5,none⟩=some (.bool n6) ∧
                w'.cell? ⟨gy,0,none⟩=some (.int .i64 y') ∧ w'.cell? ⟨gy,1,none⟩=some (.slice B' m' d') ∧ w'.cell? ⟨gy,2,none⟩=some (.bool nh') ∧ gq<w'.heap.size ∧ gy<w'.heap.size ∧ Hid (ResIs w' w.heap.size) ∧ Hid (Below w.heap.size w w') ∧ Hid (NumIs w' (.agg #[.int .i64 x5,.slice A5 k5 c5,.bool n5]) q.num) ∧ Hid (NumIs w' (.agg #[.int .i64 x6,.slice A6 k6 c6,.bool n6]) (q.den:Int)) ∧ Hid (NumIs w' (.agg #[.int .i64 y',.slice B' m' d',.bool nh']) (signed false dn)))
                (first
                  | with_reducible exact ⟨by go_keep,by go_keep,by go_keep,by go_keep,by go_keep,by go_keep,by go_keep,by go_keep,by go_keep,by first | (simp;done) | (simp;assumption),by first | (simp;done) | (simp;assumption),HRES,HWX,HY1,HY2,HY3⟩
                  | (go_split_ands;with_reducible exact ⟨rat_cell (by omega) (by assumption),rat_cell (by omega) (by assumption),rat_cell (by omega) (by assumption),rat_cell (by omega) (by assumption),rat_cell (by omega) (by assumption),rat_cell (by omega) (by assumption),rat_cell (by omega) (by assumption),rat_cell (by omega) (by assumption),rat_cell (by omega) (by assumption),rat_size (by assumption),rat_size (by assumption),hid_res_rat (by assumption),hid_below_rat (by omega) (by assumption),hid_num_rat (by assumption) (by assumption),hid_num_rat (by assumption) (by assumption),hid_num_rat (by assumption) (by assumption)⟩)
                  | (go_split_ands;with_reducible exact ⟨cell_keep (by assumption) (by assumption) (by assumption),cell_keep (by assumption) (by assumption) (by assumption),cell_keep (by assumption) (by assumption) (by assumption),cell_keep (by assumption) (by assumption) (by assumption),cell_keep (by assumption) (by assumption) (by assumption),cell_keep (by assumption) (by assumption) (by assumption),cell_keep (by assumption) (by assumption) (by assumption),cell_keep (by assumption) (by assumption) (by assumption),cell_keep (by assumption) (by assumption) (by assumption),size_keep (by assumption) (by assumption),size_keep (by assumption) (by assumption),hid_res (by assumption) (by assumption),hid_below (by assumption) (by assumption),hid_num (by assumption) (by assumption),hid_num (by assumption) (by assumption),hid_num (by assumption) (by assumption)⟩)
                  | go_keep)
                (first
                  | (go_at_call 93;refine (cmp_any _ _ (q.den:Int) (signed false dn) _ (unhide (by go_split_ands;assumption)) (unhide (by go_split_ands;assumption)) HLQ.out (Nat.le_trans (signed_len HLD.out) (by omega))).mono ?_;rintro e wo ⟨rfl,hbo⟩;obtain ⟨xr,Ar,kr,cr,sr,yr,Br,krx,crx,tr,kR⟩:=(hid_res (g:=w.heap.size) hbo (by go_split_ands;assumption)).out;have r0:=kR.cell 0;have r1:=kR.cell 1;have r2:=kR.cell 2;have r3:=kR.cell 3;have r4:=kR.cell 4;have r5:=kR.cell 5;have f0:=kR.frozen 0;have f1:=kR.frozen 1;have f2:=kR.frozen 2;have f3:=kR.frozen 3;have f4:=kR.frozen 4;have f5:=kR.frozen 5;simp at r0 r1 r2 r3 r4 r5;have HKR:=hide kR;clear kR))
               all_goals
                go_split_ands
                have kR2:=rat_blk (x:=x5) (A:=A5) (k:=k5) (c:=c5) (s:=n5) (y:=x6) (B:=A6) (k' :=k6) (c' :=c6) (t:=n6) HKR.out
                have hR1:=unhide (by assumption:Hid (NumIs (World.rat wo w.heap.size x5 A5 k5 c5 n5 x6 A6 k6 c6 n6) (.agg #[.int .i64 x5,.slice A5 k5 c5,.bool n5]) q.num))
                have hR2:=unhide (by assumption:Hid (NumIs (World.rat wo w.heap.size x5 A5 k5 c5 n5 x6 A6 k6 c6 n6) (.agg #[.int .i64 x6,.slice A6 k6 c6,.bool n6]) (q.den:Int)))
                have hRW:=unhide (by assumption:Hid (Below w.heap.size w (World.rat wo w.heap.size x5 A5 k5 c5 n5 x6 A6 k6 c6 n6)))
                have e0:=kR2.cell 0
                have e1:=kR2.cell 1
                have e2:=kR2.cell 2
                have e3:=kR2.cell 3
                have e4:=kR2.cell 4
                have e5:=kR2.cell 5
                simp only [World.rat] at e0 e1 e2 e3 e4 e5
                simp at e0 e1 e2 e3 e4 e5
                go_wp2
                refine bodyPost_ret (v:=.tuple #[.agg #[.int .i64 x5,.slice A5 k5 c5,.bool n5,.int .i64 x6,.slice A6 k6 c6,.bool n6],.bool (cmpOf (q.den:Int) (signed false dn) == 0)]) (by simp [results,Tryz.results45,go_sem,e0,e1,e2,e3,e4,e5]) rfl ?_
                exact RetRat.maybe HP.out ⟨_,_,_,_,_,_,_,_,_,_,rfl,hR1,hR2⟩ hRW
end Go.Proofs.YtnmkalocbfdecaaGreatDoor
namespace Go.Proofs.YtnmkalocbfdecaaGreatDoor
open Go.RowKit Go.Deep
attribute [local go_sem ↓] Go.wp_at_zero Go.wp_at_succ
set_option maxRecDepth 100000 in
theorem valid_any (s:ByteArray) (w:World) (hs:s.size ≤ 1073741824):
 Calls Tryz.prog 23 #[.string s] w (RetB w (.bool (readFrac (bts s)).isSome)):=by
 have hr:=fun w=>rational_any s w hs
 go_enter Tryz.func23,Tryz.ntmps23
 go_wp2_with fail
 refine (hr _).mono ?_
 rintro e w1 ⟨v,b,rfl,⟨x,A,k,c,s',y,B,k',c',t,rfl⟩,hb,_,hb1⟩
 have HB:=hide hb
 have HW:=hide hb1
 clear hb hb1 hr
 go_wp2_with fail
 go_ret
 exact ⟨ret_bool HB.out.symm,ext HW.out (ext_alloc _ _)⟩
def RetTwo (w:World) (la lb:List UInt8) (e:Ending) (w' :World):Prop:=
 ∃ v1 v2 b,e= .returned (.tuple #[v1,v2,.bool b]) ∧ AggR v1 ∧ AggR v2 ∧ b=((readFrac la).isSome && (readFrac lb).isSome) ∧ (∀ q,readFrac la=some q → RatIs w' v1 q) ∧ (∀ q,readFrac lb=some q → RatIs w' v2 q) ∧ Below w.heap.size w w'
theorem RatIs.stored {W:World} {g:Nat} {v:Value} {q:Rat} {x y x0 y0:Int} {A B A0 B0:Option Addr} {k c k' c' k0 c0 k1 c1:Nat} {s t s0 t0:Bool} {t' :TypeId} (h:RatIs W v q)
 (hk:Blk W g t' #[.int .i64 x0,.slice A0 k0 c0,.bool s0,.int .i64 y0,.slice B0 k1 c1,.bool t0]):RatIs (World.rat W g x A k c s y B k' c' t) v q:=by
 obtain ⟨x5,A5,k5,c5,s5,y5,B5,k6,c6,t5,rfl,h1,h2⟩:=h
 exact ⟨_,_,_,_,_,_,_,_,_,_,rfl,rat_stored h1 hk,rat_stored h2 hk⟩
set_option maxRecDepth 100000 in
set_option maxHeartbeats 4000000 in
theorem two_any (a b:ByteArray) (w:World) (ha:a.size ≤ 1073741824) (hb:b.size ≤ 1073741824):
 Calls Tryz.prog 50 #[.string a,.string b] w (RetTwo w (bts a) (bts b)):=by
 have hr1:=fun w=>rational_any a w ha
 have hr2:=fun w=>rational_any b w hb
 have kA:=(Blk.new w 67 #[.int .i64 0,.slice none 0 0,.bool false,.int .i64 0,.slice none 0 0,.bool false]).alloc (.cells #[.int .i64 0,.slice none 0 0,.bool false,.int .i64 0,.slice none 0 0,.bool false] 67)
 have kB:=Blk.new (w.alloc (.cells #[.int .i64 0,.slice none 0 0,.bool false,.int .i64 0,.slice none 0 0,.bool false] 67)) 67 #[.int .i64 0,.slice none 0 0,.bool false,.int .i64 0,.slice none 0 0,.bool false]
 have hW:=ext (ext_alloc w (.cells #[.int .i64 0,.slice none 0 0,.bool false,.int .i64 0,.slice none 0 0,.bool false] 67)) (ext_alloc _ (.cells #[.int .i64 0,.slice none 0 0,.bool false,.int .i64 0,.slice none 0 0,.bool false] 67))
 simp only [World.size_alloc] at kB
 go_enter Tryz.func50,Tryz.ntmps50
 go_wp2_with fail
 generalize (w.alloc (.cells #[.int .i64 0,.slice none 0 0,.bool false,.int .i64 0,.slice none 0 0,.bool false] 67)).alloc (.cells #[.int .i64 0,.slice none 0 0,.bool false,.int .i64 0,.slice none 0 0,.bool false] 67)=W at kA kB hW ⊢
 refine (hr1 _).mono ?_
 rintro e w1 ⟨v1,b1,rfl,⟨x1,A1,k1,c1,s1,y1,B1,k1x,c1x,t1,rfl⟩,hb1,hq1,hbl1⟩
 have kA1:=kA.below hbl1 kA.lt
 have kB1:=kB.below hbl1 kB.lt
 have a0:=kA1.cell 0
 have a1:=kA1.cell 1
 have a2:=kA1.cell 2
 have a3:=kA1.cell 3
 have a4:=kA1.cell 4
 have a5:=kA1.cell 5
 have f0:=kA1.frozen 0
 have f1:=kA1.frozen 1
 have f2:=kA1.frozen 2
 have f3:=kA1.frozen 3
 have f4:=kA1.frozen 4
 have f5:=kA1.frozen 5
 simp at a0 a1 a2 a3 a4 a5
 have HA1:=hide (rat_blk (x:=x1) (A:=A1) (k:=k1) (c:=c1) (s:=s1) (y:=y1) (B:=B1) (k' :=k1x) (c' :=c1x) (t:=t1) kA1)
 have HB1:=hide (rat_far (g' :=w.heap.size) (x:=x1) (A:=A1) (k:=k1) (c:=c1) (s:=s1) (y:=y1) (B:=B1) (k' :=k1x) (c' :=c1x) (t:=t1) kB1 (by omega))
 have HQ1:=hide (show ∀ q,readFrac (bts a)=some q → RatIs (World.rat w1 w.heap.size x1 A1 k1 c1 s1 y1 B1 k1x c1x t1) _ q from fun q hq=>(hq1 q hq).stored kA1)
 have HW1:=hide (rat_below (g:=w.heap.size) (x:=x1) (A:=A1) (k:=k1) (c:=c1) (s:=s1) (y:=y1) (B:=B1) (k' :=k1x) (c' :=c1x) (t:=t1) (ext hW hbl1) (Nat.le_refl _))
 have HE1:=hide hb1
 clear kA kB hW hb1 hq1 hbl1 kA1 kB1 hr1
 simp only [World.rat] at HA1 HB1 HQ1 HW1
 go_wp2_with fail
 generalize (((((w1.setCell { block:=w.heap.size,off:=0 } (.int .i64 x1)).setCell { block:=w.heap.size,off:=1 } (.slice A1 k1 c1)).setCell { block:=w.heap.size,off:=2 } (.bool s1)).setCell { block:=w.heap.size,off:=3 } (.int .i64 y1)).setCell { block:=w.heap.size,off:=4 } (.slice B1 k1x c1x)).setCell { block:=w.heap.size,off:=5 } (.bool t1)=W1 at HA1 HB1 HQ1 HW1 ⊢
 clear a0 a1 a2 a3 a4 a5 f0 f1 f2 f3 f4 f5
 refine (hr2 _).mono ?_
 rintro e w2 ⟨v2,b2,rfl,⟨x2,A2,k2,c2,s2,y2,B2,k2x,c2x,t2,rfl⟩,hb2,hq2,hbl2⟩
 have kA2:=HA1.out.below hbl2 HA1.out.lt
 have kB2:=HB1.out.below hbl2 HB1.out.lt
 have a0:=kB2.cell 0
 have a1:=kB2.cell 1
 have a2:=kB2.cell 2
 have a3:=kB2.cell 3
 have a4:=kB2.cell 4
 have a5:=kB2.cell 5
 have f0:=kB2.frozen 0
 have f1:=kB2.frozen 1
 have f2:=kB2.frozen 2
 have f3:=kB2.frozen 3
 have f4:=kB2.frozen 4
 have f5:=kB2.frozen 5
 simp at a0 a1 a2 a3 a4 a5
 have HB2:=hide (rat_blk (x:=x2) (A:=A2) (k:=k2) (c:=c2) (s:=s2) (y:=y2) (B:=B2) (k' :=k2x) (c' :=c2x) (t:=t2) kB2)
 have HA2:=hide (rat_far (g' :=w.heap.size+1) (x:=x2) (A:=A2) (k:=k2) (c:=c2) (s:=s2) (y:=y2) (B:=B2) (k' :=k2x) (c' :=c2x) (t:=t2) kA2 (by omega))
 have HQ1' :=hide (show ∀ q,readFrac (bts a)=some q → RatIs (World.rat w2 (w.heap.size+1) x2 A2 k2 c2 s2 y2 B2 k2x c2x t2) _ q from fun q hq=>((HQ1.out q hq).below hbl2).stored kB2)
 have HQ2:=hide (show ∀ q,readFrac (bts b)=some q → RatIs (World.rat w2 (w.heap.size+1) x2 A2 k2 c2 s2 y2 B2 k2x c2x t2) _ q from fun q hq=>(hq2 q hq).stored kB2)
 have HW2:=hide (rat_below (g:=w.heap.size+1) (x:=x2) (A:=A2) (k:=k2) (c:=c2) (s:=s2) (y:=y2) (B:=B2) (k' :=k2x) (c' :=c2x) (t:=t2) (ext HW1.out hbl2) (by omega))
 have HE2:=hide hb2
 clear hb2 hq2 hbl2 kA2 kB2 hr2 HA1 HB1 HQ1 HW1
 simp only [World.rat] at HA2 HB2 HQ1' HQ2 HW2
 go_wp2_with fail
 generalize (((((w2.setCell { block:=w.heap.size+1,off:=0 } (.int .i64 x2)).setCell { block:=w.heap.size+1,off:=1 } (.slice A2 k2 c2)).setCell { block:=w.heap.size+1,off:=2 } (.bool s2)).setCell { block:=w.heap.size+1,off:=3 } (.int .i64 y2)).setCell { block:=w.heap.size+1,off:=4 } (.slice B2 k2x c2x)).setCell { block:=w.heap.size+1,off:=5 } (.bool t2)=W2 at HA2 HB2 HQ1' HQ2 HW2 ⊢
 clear a0 a1 a2 a3 a4 a5 f0 f1 f2 f3 f4 f5
 have a0:=HA2.out.cell 0
 have a1:=HA2.out.cell 1
 have a2:=HA2.out.cell 2
 have a3:=HA2.out.cell 3
 have a4:=HA2.out.cell 4
 have a5:=HA2.out.cell 5
 have f0:=HA2.out.frozen 0
 have f1:=HA2.out.frozen 1
 have f2:=HA2.out.frozen 2
 have f3:=HA2.out.frozen 3
 have f4:=HA2.out.frozen 4
 have f5:=HA2.out.frozen 5
 have d0:=HB2.out.cell 0
 have d1:=HB2.out.cell 1
 have d2:=HB2.out.cell 2
 have d3:=HB2.out.cell 3
 have d4:=HB2.out.cell 4
 have d5:=HB2.out.cell 5
 have g0:=HB2.out.frozen 0
 have g1:=HB2.out.frozen 1
 have g2:=HB2.out.frozen 2
 have g3:=HB2.out.frozen 3
 have g4:=HB2.out.frozen 4
 have g5:=HB2.out.frozen 5
 simp at a0 a1 a2 a3 a4 a5 d0 d1 d2 d3 d4 d5
 cases b1 with
 | true=>
   have HR:=hide (show b2=((readFrac (bts a)).isSome && (readFrac (bts b)).isSome) by rw [← HE1.out, ← HE2.out];rfl)
   go_region
   go_wp2
   have kA3:=rat_blk (x:=x1) (A:=A1) (k:=k1) (c:=c1) (s:=s1) (y:=y1) (B:=B1) (k' :=k1x) (c' :=c1x) (t:=t1) HA2.out
   have kB3:=rat_far (g' :=w.heap.size) (x:=x1) (A:=A1) (k:=k1) (c:=c1) (s:=s1) (y:=y1) (B:=B1) (k' :=k1x) (c' :=c1x) (t:=t1) HB2.out (by omega)
   have kA4:=rat_far (g' :=w.heap.size+1) (x:=x2) (A:=A2) (k:=k2) (c:=c2) (s:=s2) (y:=y2) (B:=B2) (k' :=k2x) (c' :=c2x) (t:=t2) kA3 (by omega)
   have kB4:=rat_blk (x:=x2) (A:=A2) (k:=k2) (c:=c2) (s:=s2) (y:=y2) (B:=B2) (k' :=k2x) (c' :=c2x) (t:=t2) kB3
   have e0:=kA4.cell 0
   have e1:=kA4.cell 1
   have e2:=kA4.cell 2
   have e3:=kA4.cell 3
   have e4:=kA4.cell 4
   have e5:=kA4.cell 5
   have h0:=kB4.cell 0
   have h1:=kB4.cell 1
   have h2:=kB4.cell 2
   have h3:=kB4.cell 3
   have h4:=kB4.cell 4
   have h5:=kB4.cell 5
   simp only [World.rat] at e0 e1 e2 e3 e4 e5 h0 h1 h2 h3 h4 h5
   simp at e0 e1 e2 e3 e4 e5 h0 h1 h2 h3 h4 h5
   refine bodyPost_ret (v:=.tuple #[.agg #[.int .i64 x1,.slice A1 k1 c1,.bool s1,.int .i64 y1,.slice B1 k1x c1x,.bool t1],.agg #[.int .i64 x2,.slice A2 k2 c2,.bool s2,.int .i64 y2,.slice B2 k2x c2x,.bool t2],.bool b2]) (by simp [results,Tryz.results50,go_sem,e0,e1,e2,e3,e4,e5,h0,h1,h2,h3,h4,h5]) rfl ?_
   have hd:=ext_drewN (World.rat (World.rat W2 w.heap.size x1 A1 k1 c1 s1 y1 B1 k1x c1x t1) (w.heap.size+1) x2 A2 k2 c2 s2 y2 B2 k2x c2x t2) 1
   exact ⟨_,_,_,rfl,⟨_,_,_,_,_,_,_,_,_,_,rfl⟩,⟨_,_,_,_,_,_,_,_,_,_,rfl⟩,HR.out,fun q hq=>(((HQ1'.out q hq).stored HA2.out).stored kB3).below hd,fun q hq=>(((HQ2.out q hq).stored HA2.out).stored kB3).below hd,below_drewN (rat_below (rat_below HW2.out (Nat.le_refl _)) (by omega)) 1⟩
 | false=>
   have HR:=hide (show false=((readFrac (bts a)).isSome && (readFrac (bts b)).isSome) by rw [← HE1.out];rfl)
   go_region
   go_wp2
   have kA3:=rat_blk (x:=x1) (A:=A1) (k:=k1) (c:=c1) (s:=s1) (y:=y1) (B:=B1) (k' :=k1x) (c' :=c1x) (t:=t1) HA2.out
   have kB3:=rat_far (g' :=w.heap.size) (x:=x1) (A:=A1) (k:=k1) (c:=c1) (s:=s1) (y:=y1) (B:=B1) (k' :=k1x) (c' :=c1x) (t:=t1) HB2.out (by omega)
   have kA4:=rat_far (g' :=w.heap.size+1) (x:=x2) (A:=A2) (k:=k2) (c:=c2) (s:=s2) (y:=y2) (B:=B2) (k' :=k2x) (c' :=c2x) (t:=t2) kA3 (by omega)
   have kB4:=rat_blk (x:=x2) (A:=A2) (k:=k2) (c:=c2) (s:=s2) (y:=y2) (B:=B2) (k' :=k2x) (c' :=c2x) (t:=t2) kB3
   have e0:=kA4.cell 0
   have e1:=kA4.cell 1
   have e2:=kA4.cell 2
   have e3:=kA4.cell 3
   have e4:=kA4.cell 4
   have e5:=kA4.cell 5
   have h0:=kB4.cell 0
   have h1:=kB4.cell 1
   have h2:=kB4.cell 2
   have h3:=kB4.cell 3
   have h4:=kB4.cell 4
   have h5:=kB4.cell 5
   simp only [World.rat] at e0 e1 e2 e3 e4 e5 h0 h1 h2 h3 h4 h5
   simp at e0 e1 e2 e3 e4 e5 h0 h1 h2 h3 h4 h5
   refine bodyPost_ret (v:=.tuple #[.agg #[.int .i64 x1,.slice A1 k1 c1,.bool s1,.int .i64 y1,.slice B1 k1x c1x,.bool t1],.agg #[.int .i64 x2,.slice A2 k2 c2,.bool s2,.int .i64 y2,.slice B2 k2x c2x,.bool t2],.bool false]) (by simp [results,Tryz.results50,go_sem,e0,e1,e2,e3,e4,e5,h0,h1,h2,h3,h4,h5]) rfl ?_
   have hd:=ext_drewN (World.rat (World.rat W2 w.heap.size x1 A1 k1 c1 s1 y1 B1 k1x c1x t1) (w.heap.size+1) x2 A2 k2 c2 s2 y2 B2 k2x c2x t2) 1
   exact ⟨_,_,_,rfl,⟨_,_,_,_,_,_,_,_,_,_,rfl⟩,⟨_,_,_,_,_,_,_,_,_,_,rfl⟩,HR.out,fun q hq=>(((HQ1'.out q hq).stored HA2.out).stored kB3).below hd,fun q hq=>(((HQ2.out q hq).stored HA2.out).stored kB3).below hd,below_drewN (rat_below (rat_below HW2.out (Nat.le_refl _)) (by omega)) 1⟩
end Go.Proofs.YtnmkalocbfdecaaGreatDoor
namespace Go.Proofs.YtnmkalocbfdecaaGreatDoor
open Go.RowKit Go.Deep
def op2 (f:Rat → Rat → Rat) (la lb:List UInt8):List UInt8×Int:=match readFrac la,readFrac lb with
 | some x,some y=>toldOf (f x y)
 | _,_=>([],4)
theorem op2_no {f:Rat → Rat → Rat} {la lb:List UInt8} (h:((readFrac la).isSome && (readFrac lb).isSome)=false):op2 f la lb=([],4):=by
 unfold op2
 cases ha:readFrac la with
 | none=>rfl
 | some x=>
   cases hb:readFrac lb with
   | none=>rfl
   | some y=>rw [ha,hb] at h;cases h
theorem two_some {la lb:List UInt8} (h:((readFrac la).isSome && (readFrac lb).isSome)=true):∃ x y,readFrac la=some x ∧ readFrac lb=some y:=by
 cases ha:readFrac la with
 | none=>rw [ha] at h;cases h
 | some x=>
   cases hb:readFrac lb with
   | none=>rw [ha,hb] at h;cases h
   | some y=>exact ⟨x,y,rfl,rfl⟩
theorem op2_yes {f:Rat → Rat → Rat} {la lb:List UInt8} {x y:Rat} (ha:readFrac la=some x) (hb:readFrac lb=some y):op2 f la lb=toldOf (f x y):=by unfold op2;rw [ha,hb]
theorem rlen_of {l:List UInt8} {q:Rat} (h:readFrac l=some q):RLen 50000 q:=(readFrac_some.1 h).2.len
theorem RLen.more {M K:Nat} {q:Rat} (h:RLen M q) (hM:M ≤ K):RLen K q:=⟨Nat.le_trans h.1 hM,Nat.le_trans h.2 hM⟩
theorem RLen.of_dz {e:Nat} {q:Rat} (h:Dz e q):RLen (e+1) q:=(Dz.short h (Nat.lt_succ_self e)).len
theorem dz_of {l:List UInt8} {q:Rat} (h:readFrac l=some q):Dz 50000 q:=(readFrac_some.1 h).2.sz
theorem dz_div {e f:Nat} {p q:Rat} (hp:Dz e p) (hq:Dz f q) (h:q≠0):Dz (e+f) (p / q):=by
 rw [← rat_div _ _ h]
 have hn:q.num≠0:=fun e=>h (Rat.num_eq_zero.1 e)
 refine sz_of (s:=(p.den:Int)*q.num) (M:=p.num*q.den) (Int.mul_ne_zero (by have:=p.den_nz;omega) hn) ?_ ?_ ?_
 · rw [Rat.divInt_eq_div]
   have h1:=cast_ne (Int.mul_ne_zero (show (p.den:Int)≠0 by have:=p.den_nz;omega) hn)
   grind
 · rw [Int.natAbs_mul,Nat.pow_add];exact Nat.mul_le_mul hp.1 (by simpa using hq.2)
 · rw [Int.natAbs_mul,Nat.pow_add];exact Nat.mul_le_mul (by simpa using hp.2) hq.1
set_option maxRecDepth 100000 in
set_option maxHeartbeats 2000000 in
theorem reckon_add (a b:ByteArray) (w:World) (ha:a.size ≤ 1073741824) (hb:b.size ≤ 1073741824):
 Calls Tryz.prog 36 #[.string a,.string b,.func (.func 37) #[] #[]] w (RetT w (op2 (· + ·) (bts a) (bts b))):=by
 have ht:=fun w=>two_any a b w ha hb
 go_enter Tryz.func36,Tryz.ntmps36
 go_wp2_with fail
 refine (ht _).mono ?_
 rintro e w1 ⟨v1,v2,bb,rfl,⟨x1,A1,k1,c1,s1,y1,B1,k1x,c1x,t1,rfl⟩,⟨x2,A2,k2,c2,s2,y2,B2,k2x,c2x,t2,rfl⟩,hbb,hq1,hq2,hW⟩
 have hb1:=ext (ext_alloc w1 (.cells #[.int .i64 x1,.slice A1 k1 c1,.bool s1,.int .i64 y1,.slice B1 k1x c1x,.bool t1] 67)) (ext_alloc _ (.cells #[.int .i64 x2,.slice A2 k2 c2,.bool s2,.int .i64 y2,.slice B2 k2x c2x,.bool t2] 67))
 have HQ1:=hide (show ∀ q,readFrac (bts a)=some q → RatIs _ _ q from fun q hq=>(hq1 q hq).below hb1)
 have HQ2:=hide (show ∀ q,readFrac (bts b)=some q → RatIs _ _ q from fun q hq=>(hq2 q hq).below hb1)
 have HW:=hide (ext hW hb1)
 clear hq1 hq2 hW hb1 ht
 cases bb with
 | false=>
   have HR:=hide (op2_no (f:=(· + ·)) hbb.symm)
   clear hbb
   go_wp2_with fail
   go_ret2
   rw [HR.out]
   exact ⟨rfl,HW.out⟩
 | true=>
   obtain ⟨x,y,hx,hy⟩:=two_some hbb.symm
   have HR:=hide (op2_yes (f:=(· + ·)) hx hy)
   have HX:=hide hx
   have HY:=hide hy
   clear hbb hx hy
   go_wp2_with fail
   refine (rat_add_any _ _ x y _ (HQ1.out x HX.out) (HQ2.out y HY.out) ((rlen_of HX.out).more (by omega)) ((rlen_of HY.out).more (by omega))).mono ?_
   rintro e w2 ⟨v,rfl,hv,hb2⟩
   have HL:=hide (show RLen 67108864 ((· + ·) x y) from (RLen.of_dz (e:=100001) (Dz.add (dz_of HX.out) (dz_of HY.out) (by omega))).more (by omega))
   have HV:=hide hv
   have HW2:=hide (ext HW.out hb2)
   clear hv hb2
   go_wp2_with fail
   refine (told_any v _ w2 HV.out HL.out).mono ?_
   rintro e w3 ⟨rfl,hb3⟩
   have HB3:=hide hb3
   clear hb3
   go_wp2_with fail
   go_ret2
   rw [HR.out]
   exact ⟨rfl,ext HW2.out HB3.out⟩
set_option maxRecDepth 100000 in
set_option maxHeartbeats 2000000 in
theorem reckon_sub (a b:ByteArray) (w:World) (ha:a.size ≤ 1073741824) (hb:b.size ≤ 1073741824):
 Calls Tryz.prog 36 #[.string a,.string b,.func (.func 41) #[] #[]] w (RetT w (op2 (· - ·) (bts a) (bts b))):=by
 have ht:=fun w=>two_any a b w ha hb
 go_enter Tryz.func36,Tryz.ntmps36
 go_wp2_with fail
 refine (ht _).mono ?_
 rintro e w1 ⟨v1,v2,bb,rfl,⟨x1,A1,k1,c1,s1,y1,B1,k1x,c1x,t1,rfl⟩,⟨x2,A2,k2,c2,s2,y2,B2,k2x,c2x,t2,rfl⟩,hbb,hq1,hq2,hW⟩
 have hb1:=ext (ext_alloc w1 (.cells #[.int .i64 x1,.slice A1 k1 c1,.bool s1,.int .i64 y1,.slice B1 k1x c1x,.bool t1] 67)) (ext_alloc _ (.cells #[.int .i64 x2,.slice A2 k2 c2,.bool s2,.int .i64 y2,.slice B2 k2x c2x,.bool t2] 67))
 have HQ1:=hide (show ∀ q,readFrac (bts a)=some q → RatIs _ _ q from fun q hq=>(hq1 q hq).below hb1)
 have HQ2:=hide (show ∀ q,readFrac (bts b)=some q → RatIs _ _ q from fun q hq=>(hq2 q hq).below hb1)
 have HW:=hide (ext hW hb1)
 clear hq1 hq2 hW hb1 ht
 cases bb with
 | false=>
   have HR:=hide (op2_no (f:=(· - ·)) hbb.symm)
   clear hbb
   go_wp2_with fail
   go_ret2
   rw [HR.out]
   exact ⟨rfl,HW.out⟩
 | true=>
   obtain ⟨x,y,hx,hy⟩:=two_some hbb.symm
   have HR:=hide (op2_yes (f:=(· - ·)) hx hy)
   have HX:=hide hx
   have HY:=hide hy
   clear hbb hx hy
   go_wp2_with fail
   refine (rat_sub_any _ _ x y _ (HQ1.out x HX.out) (HQ2.out y HY.out) ((rlen_of HX.out).more (by omega)) ((rlen_of HY.out).more (by omega))).mono ?_
   rintro e w2 ⟨v,rfl,hv,hb2⟩
   have HL:=hide (show RLen 67108864 ((· - ·) x y) from (RLen.of_dz (e:=100001) (Dz.sub (dz_of HX.out) (dz_of HY.out) (by omega))).more (by omega))
   have HV:=hide hv
   have HW2:=hide (ext HW.out hb2)
   clear hv hb2
   go_wp2_with fail
   refine (told_any v _ w2 HV.out HL.out).mono ?_
   rintro e w3 ⟨rfl,hb3⟩
   have HB3:=hide hb3
   clear hb3
   go_wp2_with fail
   go_ret2
   rw [HR.out]
   exact ⟨rfl,ext HW2.out HB3.out⟩
set_option maxRecDepth 100000 in
set_option maxHeartbeats 2000000 in
theorem reckon_mul (a b:ByteArray) (w:World) (ha:a.size ≤ 1073741824) (hb:b.size ≤ 1073741824):
 Calls Tryz.prog 36 #[.string a,.string b,.func (.func 43) #[] #[]] w (RetT w (op2 (· * ·) (bts a) (bts b))):=by
 have ht:=fun w=>two_any a b w ha hb
 go_enter Tryz.func36,Tryz.ntmps36
 go_wp2_with fail
 refine (ht _).mono ?_
 rintro e w1 ⟨v1,v2,bb,rfl,⟨x1,A1,k1,c1,s1,y1,B1,k1x,c1x,t1,rfl⟩,⟨x2,A2,k2,c2,s2,y2,B2,k2x,c2x,t2,rfl⟩,hbb,hq1,hq2,hW⟩
 have hb1:=ext (ext_alloc w1 (.cells #[.int .i64 x1,.slice A1 k1 c1,.bool s1,.int .i64 y1,.slice B1 k1x c1x,.bool t1] 67)) (ext_alloc _ (.cells #[.int .i64 x2,.slice A2 k2 c2,.bool s2,.int .i64 y2,.slice B2 k2x c2x,.bool t2] 67))
 have HQ1:=hide (show ∀ q,readFrac (bts a)=some q → RatIs _ _ q from fun q hq=>(hq1 q hq).below hb1)
 have HQ2:=hide (show ∀ q,readFrac (bts b)=some q → RatIs _ _ q from fun q hq=>(hq2 q hq).below hb1)
 have HW:=hide (ext hW hb1)
 clear hq1 hq2 hW hb1 ht
 cases bb with
 | false=>
   have HR:=hide (op2_no (f:=(· * ·)) hbb.symm)
   clear hbb
   go_wp2_with fail
   go_ret2
   rw [HR.out]
   exact ⟨rfl,HW.out⟩
 | true=>
   obtain ⟨x,y,hx,hy⟩:=two_some hbb.symm
   have HR:=hide (op2_yes (f:=(· * ·)) hx hy)
   have HX:=hide hx
   have HY:=hide hy
   clear hbb hx hy
   go_wp2_with fail
   refine (rat_mul_any _ _ x y _ (HQ1.out x HX.out) (HQ2.out y HY.out) ((rlen_of HX.out).more (by omega)) ((rlen_of HY.out).more (by omega))).mono ?_
   rintro e w2 ⟨v,rfl,hv,hb2⟩
   have HL:=hide (show RLen 67108864 ((· * ·) x y) from (RLen.of_dz (e:=100001) (Dz.mul (dz_of HX.out) (dz_of HY.out) (by omega))).more (by omega))
   have HV:=hide hv
   have HW2:=hide (ext HW.out hb2)
   clear hv hb2
   go_wp2_with fail
   refine (told_any v _ w2 HV.out HL.out).mono ?_
   rintro e w3 ⟨rfl,hb3⟩
   have HB3:=hide hb3
   clear hb3
   go_wp2_with fail
   go_ret2
   rw [HR.out]
   exact ⟨rfl,ext HW2.out HB3.out⟩
set_option maxRecDepth 100000 in
set_option maxHeartbeats 2000000 in
theorem reckon_div (a b:ByteArray) (w:World) (ha:a.size ≤ 1073741824) (hb:b.size ≤ 1073741824) (h0:∀ y,readFrac (bts b)=some y → y≠0):
 Calls Tryz.prog 36 #[.string a,.string b,.func (.func 47) #[] #[]] w (RetT w (op2 (· / ·) (bts a) (bts b))):=by
 have ht:=fun w=>two_any a b w ha hb
 go_enter Tryz.func36,Tryz.ntmps36
 go_wp2_with fail
 refine (ht _).mono ?_
 rintro e w1 ⟨v1,v2,bb,rfl,⟨x1,A1,k1,c1,s1,y1,B1,k1x,c1x,t1,rfl⟩,⟨x2,A2,k2,c2,s2,y2,B2,k2x,c2x,t2,rfl⟩,hbb,hq1,hq2,hW⟩
 have hb1:=ext (ext_alloc w1 (.cells #[.int .i64 x1,.slice A1 k1 c1,.bool s1,.int .i64 y1,.slice B1 k1x c1x,.bool t1] 67)) (ext_alloc _ (.cells #[.int .i64 x2,.slice A2 k2 c2,.bool s2,.int .i64 y2,.slice B2 k2x c2x,.bool t2] 67))
 have HQ1:=hide (show ∀ q,readFrac (bts a)=some q → RatIs _ _ q from fun q hq=>(hq1 q hq).below hb1)
 have HQ2:=hide (show ∀ q,readFrac (bts b)=some q → RatIs _ _ q from fun q hq=>(hq2 q hq).below hb1)
 have HW:=hide (ext hW hb1)
 clear hq1 hq2 hW hb1 ht
 cases bb with
 | false=>
   have HR:=hide (op2_no (f:=(· / ·)) hbb.symm)
   clear hbb
   go_wp2_with fail
   go_ret2
   rw [HR.out]
   exact ⟨rfl,HW.out⟩
 | true=>
   obtain ⟨x,y,hx,hy⟩:=two_some hbb.symm
   have HR:=hide (op2_yes (f:=(· / ·)) hx hy)
   have HX:=hide hx
   have HY:=hide hy
   clear hbb hx hy
   go_wp2_with fail
   refine (rat_div_any _ _ x y _ (HQ1.out x HX.out) (HQ2.out y HY.out) ((rlen_of HX.out).more (by omega)) ((rlen_of HY.out).more (by omega)) (h0 y HY.out)).mono ?_
   rintro e w2 ⟨v,rfl,hv,hb2⟩
   have HL:=hide (show RLen 67108864 ((· / ·) x y) from (RLen.of_dz (e:=100001) ((dz_div (dz_of HX.out) (dz_of HY.out) (h0 y HY.out)).more (by omega))).more (by omega))
   have HV:=hide hv
   have HW2:=hide (ext HW.out hb2)
   clear hv hb2
   go_wp2_with fail
   refine (told_any v _ w2 HV.out HL.out).mono ?_
   rintro e w3 ⟨rfl,hb3⟩
   have HB3:=hide hb3
   clear hb3
   go_wp2_with fail
   go_ret2
   rw [HR.out]
   exact ⟨rfl,ext HW2.out HB3.out⟩
set_option maxRecDepth 100000 in
theorem Add_any (a b:ByteArray) (w:World) (ha:a.size ≤ 1073741824) (hb:b.size ≤ 1073741824):
 Calls Tryz.prog 9 #[.string a,.string b] w (RetT w (op2 (· + ·) (bts a) (bts b))):=by
 have hr:=fun w=>reckon_add a b w ha hb
 go_enter Tryz.func9,Tryz.ntmps9
 go_wp2_with fail
 refine (hr _).mono ?_
 rintro e w1 ⟨rfl,hb1⟩
 have HB1:=hide hb1
 clear hb1 hr
 go_wp2_with fail
 go_ret2
 exact ⟨rfl,HB1.out⟩
set_option maxRecDepth 100000 in
theorem Sub_any (a b:ByteArray) (w:World) (ha:a.size ≤ 1073741824) (hb:b.size ≤ 1073741824):
 Calls Tryz.prog 11 #[.string a,.string b] w (RetT w (op2 (· - ·) (bts a) (bts b))):=by
 have hr:=fun w=>reckon_sub a b w ha hb
 go_enter Tryz.func11,Tryz.ntmps11
 go_wp2_with fail
 refine (hr _).mono ?_
 rintro e w1 ⟨rfl,hb1⟩
 have HB1:=hide hb1
 clear hb1 hr
 go_wp2_with fail
 go_ret2
 exact ⟨rfl,HB1.out⟩
set_option maxRecDepth 100000 in
theorem Mul_any (a b:ByteArray) (w:World) (ha:a.size ≤ 1073741824) (hb:b.size ≤ 1073741824):
 Calls Tryz.prog 13 #[.string a,.string b] w (RetT w (op2 (· * ·) (bts a) (bts b))):=by
 have hr:=fun w=>reckon_mul a b w ha hb
 go_enter Tryz.func13,Tryz.ntmps13
 go_wp2_with fail
 refine (hr _).mono ?_
 rintro e w1 ⟨rfl,hb1⟩
 have HB1:=hide hb1
 clear hb1 hr
 go_wp2_with fail
 go_ret2
 exact ⟨rfl,HB1.out⟩
def cmp2 (la lb:List UInt8):Int×Int:=match readFrac la,readFrac lb with
 | some x,some y=>(cmpQ x y,0)
 | _,_=>(0,4)
def RetI2 (w:World) (r:Int×Int) (e:Ending) (w' :World):Prop:=e= .returned (.tuple #[.int .i64 r.1,.int .i64 r.2]) ∧ Below w.heap.size w w'
set_option maxRecDepth 100000 in
set_option maxHeartbeats 2000000 in
theorem Cmp_any (a b:ByteArray) (w:World) (ha:a.size ≤ 1073741824) (hb:b.size ≤ 1073741824):
 Calls Tryz.prog 17 #[.string a,.string b] w (RetI2 w (cmp2 (bts a) (bts b))):=by
 have ht:=fun w=>two_any a b w ha hb
 go_enter Tryz.func17,Tryz.ntmps17
 go_wp2_with fail
 refine (ht _).mono ?_
 rintro e w1 ⟨v1,v2,bb,rfl,⟨x1,A1,k1,c1,s1,y1,B1,k1x,c1x,t1,rfl⟩,⟨x2,A2,k2,c2,s2,y2,B2,k2x,c2x,t2,rfl⟩,hbb,hq1,hq2,hW⟩
 have hb1:=ext (ext_alloc w1 (.cells #[.int .i64 x1,.slice A1 k1 c1,.bool s1,.int .i64 y1,.slice B1 k1x c1x,.bool t1] 67)) (ext_alloc _ (.cells #[.int .i64 x2,.slice A2 k2 c2,.bool s2,.int .i64 y2,.slice B2 k2x c2x,.bool t2] 67))
 have HQ1:=hide (show ∀ q,readFrac (bts a)=some q → RatIs _ _ q from fun q hq=>(hq1 q hq).below hb1)
 have HQ2:=hide (show ∀ q,readFrac (bts b)=some q → RatIs _ _ q from fun q hq=>(hq2 q hq).below hb1)
 have HW:=hide (ext hW hb1)
 clear hq1 hq2 hW hb1 ht
 cases bb with
 | false=>
   have e0:cmp2 (bts a) (bts b)=(0,4):=by
    unfold cmp2
    cases ha:readFrac (bts a) with
    | none=>rfl
    | some x=>
      cases hb:readFrac (bts b) with
      | none=>rfl
      | some y=>rw [ha,hb] at hbb;cases hbb
   have HR:=hide e0
   clear hbb e0
   go_wp2_with fail
   go_ret2
   rw [HR.out]
   exact ⟨rfl,HW.out⟩
 | true=>
   obtain ⟨x,y,hx,hy⟩:=two_some hbb.symm
   have e0:cmp2 (bts a) (bts b)=(cmpQ x y,0):=by unfold cmp2;rw [hx,hy]
   have HR:=hide e0
   have HX:=hide hx
   have HY:=hide hy
   clear hbb hx hy e0
   go_wp2_with fail
   refine (rat_cmp_any _ _ x y _ (HQ1.out x HX.out) (HQ2.out y HY.out) ((rlen_of HX.out).more (by omega)) ((rlen_of HY.out).more (by omega))).mono ?_
   rintro e w2 ⟨rfl,hb2⟩
   have HB2:=hide hb2
   clear hb2
   go_wp2_with fail
   go_ret2
   rw [HR.out]
   exact ⟨rfl,ext HW.out HB2.out⟩
set_option maxRecDepth 100000 in
theorem reckon_none (a b:ByteArray) (w:World) (ha:a.size ≤ 1073741824) (hb:b.size ≤ 1073741824) (hn:readFrac (bts a)=none):
 Calls Tryz.prog 36 #[.string a,.string b,.func (.func 47) #[] #[]] w (RetT w (op2 (· / ·) (bts a) (bts b))):=by
 have ht:=fun w=>two_any a b w ha hb
 have e0:op2 (· / ·) (bts a) (bts b)=([],4):=by unfold op2;rw [hn]
 rw [e0]
 have HN:=hide hn
 clear e0 hn
 go_enter Tryz.func36,Tryz.ntmps36
 go_wp2_with fail
 refine (ht _).mono ?_
 rintro e w1 ⟨v1,v2,bb,rfl,⟨x1,A1,k1,c1,s1,y1,B1,k1x,c1x,t1,rfl⟩,⟨x2,A2,k2,c2,s2,y2,B2,k2x,c2x,t2,rfl⟩,hbb,hq1,hq2,hW⟩
 have hb1:=ext (ext_alloc w1 (.cells #[.int .i64 x1,.slice A1 k1 c1,.bool s1,.int .i64 y1,.slice B1 k1x c1x,.bool t1] 67)) (ext_alloc _ (.cells #[.int .i64 x2,.slice A2 k2 c2,.bool s2,.int .i64 y2,.slice B2 k2x c2x,.bool t2] 67))
 have HW:=hide (ext hW hb1)
 rw [HN.out] at hbb
 obtain rfl:bb=false:=hbb
 clear hq1 hq2 hW hb1 ht
 go_wp2_with fail
 go_ret2
 exact ⟨rfl,HW.out⟩
def div2 (la lb:List UInt8):List UInt8×Int:=match readFrac la,readFrac lb with
 | some x,some y=>if y=0 then ([],7) else toldOf (x / y)
 | _,_=>([],4)
theorem cmpQ_zero (q:Rat):(cmpQ q 0 == 0)=decide (q=0):=by
 unfold cmpQ
 by_cases h1:q<0
 · rw [if_pos h1,decide_eq_false (by grind)];rfl
 · by_cases h2:0<q
   · rw [if_neg h1,if_pos h2,decide_eq_false (by grind)];rfl
   · rw [if_neg h1,if_neg h2,decide_eq_true (by grind)];rfl
set_option maxRecDepth 100000 in
set_option maxHeartbeats 2000000 in
theorem Div_any (a b:ByteArray) (w:World) (ha:a.size ≤ 1073741824) (hb:b.size ≤ 1073741824):
 Calls Tryz.prog 15 #[.string a,.string b] w (RetT w (div2 (bts a) (bts b))):=by
 have hrb:=fun w=>rational_any b w hb
 have hva:=fun w=>valid_any a w ha
 by_cases hz:∃ x,readFrac (bts a)=some x ∧ readFrac (bts b)=some 0
 · obtain ⟨x,hx,hy⟩:=hz
   have e0:div2 (bts a) (bts b)=([],7):=by unfold div2;rw [hx,hy];simp
   rw [e0]
   simp only [hx,Option.isSome_some] at hva
   have HY:=hide hy
   clear e0 hx hy
   go_enter Tryz.func15,Tryz.ntmps15
   go_wp2_with fail
   refine (hrb _).mono ?_
   rintro e w1 ⟨v,b',rfl,⟨x1,A1,k1,c1,s1,y1,B1,k1x,c1x,t1,rfl⟩,hbb,hq,hW⟩
   rw [HY.out] at hbb
   obtain rfl:b' =true:=hbb
   have hb1:=ext_alloc w1 (.cells #[.int .i64 x1,.slice A1 k1 c1,.bool s1,.int .i64 y1,.slice B1 k1x c1x,.bool t1] 67)
   have HQ:=hide ((hq 0 HY.out).below hb1)
   have HW:=hide (ext hW hb1)
   have kB:=Blk.new w1 67 #[.int .i64 x1,.slice A1 k1 c1,.bool s1,.int .i64 y1,.slice B1 k1x c1x,.bool t1]
   have HK:=hide kB
   clear hq hW hb1 hrb kB
   go_wp2_with fail
   refine (hva _).mono ?_
   rintro e w2 ⟨rfl,hb2⟩
   have kB2:=HK.out.below hb2 HK.out.lt
   have b0:=kB2.cell 0
   have b1:=kB2.cell 1
   have b2:=kB2.cell 2
   have b3:=kB2.cell 3
   have b4:=kB2.cell 4
   have b5:=kB2.cell 5
   simp at b0 b1 b2 b3 b4 b5
   have HQ2:=hide (HQ.out.below hb2)
   have HW2:=hide (ext HW.out hb2)
   clear hb2 kB2
   go_wp2_with fail
   refine (rat_sign_any _ 0 w2 HQ2.out).mono ?_
   rintro e w3 ⟨rfl,hb3⟩
   have e1:(cmpQ 0 0 == 0)=true:=by decide
   have HB3:=hide hb3
   clear hb3
   go_wp2_with fail
   go_ret2
   exact ⟨rfl,ext HW2.out HB3.out⟩
 · have h0:∀ x y,readFrac (bts a)=some x → readFrac (bts b)=some y → y≠0:=fun x y hx hy e=>hz ⟨x,hx,by rw [hy,e]⟩
   have e0:div2 (bts a) (bts b)=op2 (· / ·) (bts a) (bts b):=by
    unfold div2 op2
    cases hx:readFrac (bts a) with
    | none=>rfl
    | some x=>
      cases hy:readFrac (bts b) with
      | none=>rfl
      | some y=>simp only;rw [if_neg (h0 x y hx hy)]
   rw [e0]
   clear e0
   by_cases hva2:(readFrac (bts a)).isSome=true
   · obtain ⟨x,hx⟩:=Option.isSome_iff_exists.1 hva2
     have hrk:=fun w=>reckon_div a b w ha hb (fun y hy=>h0 x y hx hy)
     simp only [hva2] at hva
     have H0:=hide (fun y hy=>h0 x y hx hy)
     clear h0 hx hva2 hz
     go_enter Tryz.func15,Tryz.ntmps15
     go_wp2_with fail
     refine (hrb _).mono ?_
     rintro e w1 ⟨v,b',rfl,⟨x1,A1,k1,c1,s1,y1,B1,k1x,c1x,t1,rfl⟩,hbb,hq,hW⟩
     have hb1:=ext_alloc w1 (.cells #[.int .i64 x1,.slice A1 k1 c1,.bool s1,.int .i64 y1,.slice B1 k1x c1x,.bool t1] 67)
     have HW:=hide (ext hW hb1)
     cases b' with
     | false=>
       clear hbb hq hW hb1 hrb hva
       go_wp2_with fail
       refine (hrk _).mono ?_
       rintro e w2 ⟨rfl,hb2⟩
       have HB2:=hide hb2
       clear hb2
       go_wp2_with fail
       go_ret2
       exact ⟨rfl,ext HW.out HB2.out⟩
     | true=>
       obtain ⟨y,hy⟩:=Option.isSome_iff_exists.1 hbb.symm
       have HQ:=hide ((hq y hy).below hb1)
       have HY:=hide (H0.out y hy)
       have kB:=Blk.new w1 67 #[.int .i64 x1,.slice A1 k1 c1,.bool s1,.int .i64 y1,.slice B1 k1x c1x,.bool t1]
       have HK:=hide kB
       clear hbb hq hW hb1 hrb kB hy
       go_wp2_with fail
       refine (hva _).mono ?_
       rintro e w2 ⟨rfl,hb2⟩
       have kB2:=HK.out.below hb2 HK.out.lt
       have b0:=kB2.cell 0
       have b1:=kB2.cell 1
       have b2:=kB2.cell 2
       have b3:=kB2.cell 3
       have b4:=kB2.cell 4
       have b5:=kB2.cell 5
       simp at b0 b1 b2 b3 b4 b5
       have HQ2:=hide (HQ.out.below hb2)
       have HW2:=hide (ext HW.out hb2)
       clear hb2 kB2
       go_wp2_with fail
       refine (rat_sign_any _ y w2 HQ2.out).mono ?_
       rintro e w3 ⟨rfl,hb3⟩
       have e1:(cmpQ y 0 == 0)=false:=by rw [cmpQ_zero,decide_eq_false HY.out]
       have HW3:=hide (ext HW2.out hb3)
       clear hb3
       go_wp2_with fail
       refine (hrk _).mono ?_
       rintro e w4 ⟨rfl,hb4⟩
       have HB4:=hide hb4
       clear hb4
       go_wp2_with fail
       go_ret2
       exact ⟨rfl,ext HW3.out HB4.out⟩
   · have hv0:(readFrac (bts a)).isSome=false:=by simpa using hva2
     have hnn:readFrac (bts a)=none:=by simpa using hv0
     simp only [hv0] at hva
     have hrk:∀ w,Calls Tryz.prog 36 #[.string a,.string b,.func (.func 47) #[] #[]] w (RetT w (op2 (· / ·) (bts a) (bts b))):=by
      intro w
      by_cases hb0:∀ y,readFrac (bts b)=some y → y≠0
      · exact reckon_div a b w ha hb hb0
      · exact reckon_none a b w ha hb hnn
     clear h0 hz hva2 hv0 hnn
     go_enter Tryz.func15,Tryz.ntmps15
     go_wp2_with fail
     refine (hrb _).mono ?_
     rintro e w1 ⟨v,b',rfl,⟨x1,A1,k1,c1,s1,y1,B1,k1x,c1x,t1,rfl⟩,hbb,hq,hW⟩
     have hb1:=ext_alloc w1 (.cells #[.int .i64 x1,.slice A1 k1 c1,.bool s1,.int .i64 y1,.slice B1 k1x c1x,.bool t1] 67)
     have HW:=hide (ext hW hb1)
     clear hbb hq hW hb1 hrb
     cases b' with
     | false=>
       go_wp2_with fail
       refine (hrk _).mono ?_
       rintro e w2 ⟨rfl,hb2⟩
       have HB2:=hide hb2
       clear hb2
       go_wp2_with fail
       go_ret2
       exact ⟨rfl,ext HW.out HB2.out⟩
     | true=>
       go_wp2_with fail
       refine (hva _).mono ?_
       rintro e w2 ⟨rfl,hb2⟩
       have HW2:=hide (ext HW.out hb2)
       clear hb2
       go_wp2_with fail
       refine (hrk _).mono ?_
       rintro e w4 ⟨rfl,hb4⟩
       have HB4:=hide hb4
       clear hb4
       go_wp2_with fail
       go_ret2
       exact ⟨rfl,ext HW2.out HB4.out⟩
end Go.Proofs.YtnmkalocbfdecaaGreatDoor
namespace Go.Proofs.YtnmkalocbfdecaaGreatDoor
open Go.RowKit Go.Deep
attribute [local go_sem ↓] Go.wp_at_zero Go.wp_at_succ
def sumT (la lb:List UInt8):List UInt8:=if (op2 (· + ·) la lb).2=0 then (op2 (· + ·) la lb).1 else []
def prodT (la lb:List UInt8):List UInt8:=if (op2 (· * ·) la lb).2=0 then (op2 (· * ·) la lb).1 else []
def flr (q:Rat):Rat:=((q.num / (q.den:Int):Int):Rat)
def floorT (l:List UInt8):List UInt8×Int:=match readFrac l with
 | some q=>toldOf (flr q)
 | none=>([],4)
theorem floor_of (z d:Int) (hd:0<d):(if cmpOf (z.tmod d) 0<0 then z.tdiv d - 1 else z.tdiv d)=z / d:=by
 have h1:cmpOf (z.tmod d) 0<0↔z.tmod d<0:=by
  unfold cmpOf
  constructor
  · intro h
    split at h
    · assumption
    · split at h<;>omega
  · intro h;rw [if_pos h];decide
 have h2:=Int.mul_tdiv_add_tmod z d
 have h3:=Int.mul_ediv_add_emod z d
 have h4:=Int.emod_nonneg z (show d≠0 by omega)
 have h5:=Int.emod_lt_of_pos z hd
 have h6:z.tmod d<d:=Int.tmod_lt_of_pos z hd
 have h7: -d<z.tmod d:=by
  have:=Int.tmod_lt_of_pos (-z) hd
  rw [Int.neg_tmod] at this;omega
 by_cases h:z.tmod d<0
 · rw [if_pos (h1.2 h)]
   refine (Int.ediv_eq_iff_of_pos hd).2 ?_ |>.symm
   rw [Int.sub_mul,Int.mul_comm]
   omega
 · rw [if_neg (fun e=>h (h1.1 e))]
   refine (Int.ediv_eq_iff_of_pos hd).2 ?_ |>.symm
   rw [Int.mul_comm]
   omega
theorem toldOf_err (q:Rat):(toldOf q).2=0 ∨ (toldOf q).2=3:=by unfold toldOf;split<;>simp
theorem op2_err (f:Rat → Rat → Rat) (la lb:List UInt8):(op2 f la lb).2=0 ∨ (op2 f la lb).2=3 ∨ (op2 f la lb).2=4:=by
 unfold op2
 split
 · rcases toldOf_err (f _ _) with h | h
   · exact .inl h
   · exact .inr (.inl h)
 · exact .inr (.inr rfl)
set_option maxRecDepth 100000 in
set_option maxHeartbeats 2000000 in
theorem law_sum (a b:ByteArray) (w:World) (ha:a.size ≤ 1073741824) (hb:b.size ≤ 1073741824):
 Calls Tryz.prog 24 #[.string a,.string b] w (RetB w (str (sumT (bts a) (bts b)))):=by
 have hr:=fun w=>Add_any a b w ha hb
 have he:=op2_err (· + ·) (bts a) (bts b)
 unfold sumT
 generalize op2 (· + ·) (bts a) (bts b)=r at hr he ⊢
 obtain ⟨l,x⟩:=r
 have hX:∃ y,Hid (x=y):=⟨x,hide rfl⟩
 dsimp only at he ⊢
 rcases he with rfl | rfl | rfl
 · go_enter Tryz.func24,Tryz.ntmps24
   go_wp2_with fail
   refine (hr _).mono ?_
   rintro e w1 ⟨rfl,hb1⟩
   have HB1:=hide hb1
   clear hb1 hr
   go_wp2_with fail
   go_ret
   exact ⟨rfl,HB1.out⟩
 · go_enter Tryz.func24,Tryz.ntmps24
   go_wp2_with fail
   refine (hr _).mono ?_
   rintro e w1 ⟨rfl,hb1⟩
   have HB1:=hide hb1
   clear hb1 hr
   go_wp2_with fail
   go_ret
   exact ⟨rfl,HB1.out⟩
 · go_enter Tryz.func24,Tryz.ntmps24
   go_wp2_with fail
   refine (hr _).mono ?_
   rintro e w1 ⟨rfl,hb1⟩
   have HB1:=hide hb1
   clear hb1 hr
   go_wp2_with fail
   go_ret
   exact ⟨rfl,HB1.out⟩
set_option maxRecDepth 100000 in
set_option maxHeartbeats 2000000 in
theorem law_product (a b:ByteArray) (w:World) (ha:a.size ≤ 1073741824) (hb:b.size ≤ 1073741824):
 Calls Tryz.prog 25 #[.string a,.string b] w (RetB w (str (prodT (bts a) (bts b)))):=by
 have hr:=fun w=>Mul_any a b w ha hb
 have he:=op2_err (· * ·) (bts a) (bts b)
 unfold prodT
 generalize op2 (· * ·) (bts a) (bts b)=r at hr he ⊢
 obtain ⟨l,x⟩:=r
 dsimp only at he ⊢
 rcases he with rfl | rfl | rfl
 · go_enter Tryz.func25,Tryz.ntmps25
   go_wp2_with fail
   refine (hr _).mono ?_
   rintro e w1 ⟨rfl,hb1⟩
   have HB1:=hide hb1
   clear hb1 hr
   go_wp2_with fail
   go_ret
   exact ⟨rfl,HB1.out⟩
 · go_enter Tryz.func25,Tryz.ntmps25
   go_wp2_with fail
   refine (hr _).mono ?_
   rintro e w1 ⟨rfl,hb1⟩
   have HB1:=hide hb1
   clear hb1 hr
   go_wp2_with fail
   go_ret
   exact ⟨rfl,HB1.out⟩
 · go_enter Tryz.func25,Tryz.ntmps25
   go_wp2_with fail
   refine (hr _).mono ?_
   rintro e w1 ⟨rfl,hb1⟩
   have HB1:=hide hb1
   clear hb1 hr
   go_wp2_with fail
   go_ret
   exact ⟨rfl,HB1.out⟩
theorem zero_bts:bts ⟨#[48]⟩=[48]:=rfl
set_option maxRecDepth 100000 in
set_option maxHeartbeats 2000000 in
theorem Neg_any (a:ByteArray) (w:World) (ha:a.size ≤ 1073741824):
 Calls Tryz.prog 19 #[.string a] w (RetT w (op2 (· - ·) [48] (bts a))):=by
 have hr:=fun w=>reckon_sub ⟨#[48]⟩ a w (by decide) ha
 rw [zero_bts] at hr
 go_enter Tryz.func19,Tryz.ntmps19
 go_wp2_with fail
 refine (hr _).mono ?_
 rintro e w1 ⟨rfl,hb1⟩
 have HB1:=hide hb1
 clear hb1 hr
 go_wp2_with fail
 go_ret2
 exact ⟨rfl,HB1.out⟩
set_option maxRecDepth 100000 in
set_option maxHeartbeats 2000000 in
theorem rat_floor (va:Value) (q:Rat) (w:World) (ha:RatIs w va q) (hl:RLen 33554432 q):
 Calls Tryz.prog 55 #[va] w (NewNum w (q.num / (q.den:Int))):=by
 obtain ⟨x1,A1,k1,c1,s1,y1,B1,k1x,c1x,t1,rfl,ha1,ha2⟩:=ha
 have hd:(0:Int)<q.den:=by have:=q.den_pos;omega
 have HF:=hide (floor_of q.num q.den hd)
 obtain ⟨z,hz⟩:∃ z,q.num / (q.den:Int)=z:=⟨_,rfl⟩
 rw [hz] at HF ⊢
 have HD:=hide (show (q.den:Int)≠0 by omega)
 have HL1:=hide hl.1
 have HL2:=hide hl.2
 have hW:=ext (ext_alloc w (.cells #[.int .i64 x1,.slice A1 k1 c1,.bool s1,.int .i64 y1,.slice B1 k1x c1x,.bool t1] 67)) (ext_alloc _ (.cells #[.int .i64 0,.slice none 0 0,.bool false] 65))
 have HAN:=hide (ha1.below hW)
 have HAD:=hide (ha2.below hW)
 have HW:=hide hW
 have kC:=Blk.new (w.alloc (.cells #[.int .i64 x1,.slice A1 k1 c1,.bool s1,.int .i64 y1,.slice B1 k1x c1x,.bool t1] 67)) 65 #[.int .i64 0,.slice none 0 0,.bool false]
 simp only [World.size_alloc] at kC
 have HC:=hide kC
 clear hd hl hW ha1 ha2 hz kC
 go_enter Tryz.func55,Tryz.ntmps55
 go_wp2_with fail
 refine (quo_any _ _ q.num q.den _ HAN.out HAD.out HD.out HL1.out HL2.out).mono ?_
 rintro e w1 ⟨v,v',rfl,hv,hv',hb1⟩
 obtain ⟨x2,A2,k2,c2,s2,rfl,_,_,_⟩:=hv.form
 obtain ⟨x3,A3,k3,c3,s3,rfl,_,_,_⟩:=hv'.form
 have hne:w.heap.size+1<w1.heap.size:=(HC.out.below hb1 HC.out.lt).lt
 have HN:=hide hne
 have hx:=ext (ext_alloc w1 (.cells #[.int .i64 x2,.slice A2 k2 c2,.bool s2] 65)) (ext_alloc _ (.cells #[.int .i64 x3,.slice A3 k3 c3,.bool s3] 65))
 have HQ:=hide (hv.below hx)
 have HR:=hide (hv'.below hx)
 replace HW:=hide (ext (ext HW.out hb1) hx)
 replace HC:=hide ((HC.out.below hb1 HC.out.lt).below hx (HC.out.below hb1 HC.out.lt).lt)
 clear hv hv' hb1 hx HAN HAD hne
 go_wp2_with fail
 refine (sign_any _ (q.num.tmod (q.den:Int)) _ HR.out).mono ?_
 rintro e w2 ⟨rfl,hb2⟩
 replace HQ:=hide (HQ.out.below hb2)
 replace HW:=hide (ext HW.out hb2)
 have kK:=((Blk.new w1 65 #[.int .i64 x2,.slice A2 k2 c2,.bool s2]).alloc (.cells #[.int .i64 x3,.slice A3 k3 c3,.bool s3] 65))
 have kK2:=kK.below hb2 kK.lt
 have kC2:=HC.out.below hb2 HC.out.lt
 have HK:=hide kK2
 replace HC:=hide kC2
 clear kK kK2 kC2 hb2 HR
 generalize w1.heap.size=g at HK HN ⊢
 have c0:=HK.out.cell 0
 have c1:=HK.out.cell 1
 have c2' :=HK.out.cell 2
 have f0:=HK.out.frozen 0
 have f1:=HK.out.frozen 1
 have f2:=HK.out.frozen 2
 have d0:=HC.out.cell 0
 have d1:=HC.out.cell 1
 have d2:=HC.out.cell 2
 have g0:=HC.out.frozen 0
 have g1:=HC.out.frozen 1
 have g2:=HC.out.frozen 2
 simp at c0 c1 c2' d0 d1 d2
 generalize hcm:cmpOf (q.num.tmod (q.den:Int)) 0=cm at HF ⊢
 clear hcm
 by_cases h0:cm<0
 · have hF:q.num.tdiv (q.den:Int) - 1=z:=by have:=HF.out;rw [if_pos h0] at this;exact this
   have HFF:=hide hF
   clear HF hF
   go_wp2_with fail
   have hone:NumIs w2 (.agg #[.int .i64 1,.slice none 0 0,.bool false]) 1:=.inl ⟨1,false,rfl,by omega,by omega,rfl⟩
   have hl3:len 4294967296 (q.num.tdiv (q.den:Int)).natAbs ≤ 67108864:=by
    refine Nat.le_trans (len_mono (by omega) ?_) (Nat.le_trans HL1.out (by omega))
    rw [Int.natAbs_tdiv];exact Nat.div_le_self _ _
   refine (sub_any _ _ (q.num.tdiv (q.den:Int)) 1 w2 HQ.out hone hl3 (Nat.le_trans (len_lt_base (by decide)) (by omega))).mono ?_
   rintro e w3 ⟨v4,rfl,hv4,hb3⟩
   obtain ⟨x4,A4,k4,c4,s4,rfl,_,_,_⟩:=hv4.form
   have kK3:=HK.out.below hb3 HK.out.lt
   have kC3:=HC.out.below hb3 HC.out.lt
   have kK4:=num_blk (x:=x4) (A:=A4) (k:=k4) (c:=c4) (ng:=s4) kK3
   have kC4:=num_far (x:=x4) (A:=A4) (k:=k4) (c:=c4) (ng:=s4) kC3 (Nat.ne_of_lt HN.out)
   have hq4:=num_stored (x:=x4) (A:=A4) (k:=k4) (c:=c4) (ng:=s4) hv4 kK3
   have hw4:=num_below (x:=x4) (A:=A4) (k:=k4) (c:=c4) (ng:=s4) (ext HW.out hb3) (g:=g) (by have:=HN.out;omega)
   have HK3:=hide kK3
   have HK4:=hide kK4
   have HQ4:=hide hq4
   replace HC:=hide kC4
   replace HW:=hide hw4
   clear c0 c1 c2' f0 f1 f2 d0 d1 d2 g0 g1 g2 kK3 kC3 kK4 kC4 hq4 hw4 hb3 hone hl3 hv4 HK HQ HL1 HL2
   have c0:=HK3.out.cell 0
   have c1:=HK3.out.cell 1
   have c2' :=HK3.out.cell 2
   have f0:=HK3.out.frozen 0
   have f1:=HK3.out.frozen 1
   have f2:=HK3.out.frozen 2
   simp at c0 c1 c2'
   go_upto_region 4 with fail
   obtain ⟨W4,hW4⟩:∃ x,x=World.num w3 g x4 A4 k4 c4 s4:=⟨_,rfl⟩
   rw [← hW4] at HK4 HC HQ4 HW
   simp only [World.num] at hW4
   rw [← hW4]
   have d0:=HK4.out.cell 0
   have d1:=HK4.out.cell 1
   have d2:=HK4.out.cell 2
   have e0:=HC.out.cell 0
   have e1:=HC.out.cell 1
   have e2:=HC.out.cell 2
   have g0:=HC.out.frozen 0
   have g1:=HC.out.frozen 1
   have g2:=HC.out.frozen 2
   simp at d0 d1 d2 e0 e1 e2
   clear hW4 c0 c1 c2' f0 f1 f2
   go_wp2_with fail
   have kD:=num_blk (x:=x4) (A:=A4) (k:=k4) (c:=c4) (ng:=s4) HC.out
   clear e0 e1 e2
   have e0:=kD.cell 0
   have e1:=kD.cell 1
   have e2:=kD.cell 2
   simp only [World.num] at e0 e1 e2
   simp at e0 e1 e2
   refine bodyPost_ret (v:=.agg #[.int .i64 x4,.slice A4 k4 c4,.bool s4]) (by simp [results,Tryz.results55,go_sem,e0,e1,e2]) rfl ?_
   rw [← HFF.out]
   exact ⟨_,rfl,num_stored HQ4.out HC.out,num_below HW.out (by omega)⟩
 · have hF:q.num.tdiv (q.den:Int)=z:=by have:=HF.out;rw [if_neg h0] at this;exact this
   have HFF:=hide hF
   clear HF hF
   go_wp2_with fail
   have kD:=num_blk (x:=x2) (A:=A2) (k:=k2) (c:=c2) (ng:=s2) HC.out
   have e0:=kD.cell 0
   have e1:=kD.cell 1
   have e2:=kD.cell 2
   simp only [World.num] at e0 e1 e2
   simp at e0 e1 e2
   refine bodyPost_ret (v:=.agg #[.int .i64 x2,.slice A2 k2 c2,.bool s2]) (by simp [results,Tryz.results55,go_sem,e0,e1,e2]) rfl ?_
   rw [← HFF.out]
   exact ⟨_,rfl,num_stored HQ.out HC.out,num_below HW.out (by omega)⟩
set_option maxRecDepth 100000 in
set_option maxHeartbeats 2000000 in
theorem Floor_any (a:ByteArray) (w:World) (ha:a.size ≤ 1073741824):
 Calls Tryz.prog 21 #[.string a] w (RetT w (floorT (bts a))):=by
 have hrb:=fun w=>rational_any a w ha
 cases hq:readFrac (bts a) with
 | none=>
   have e0:floorT (bts a)=([],4):=by unfold floorT;rw [hq]
   rw [e0]
   have HY:=hide hq
   clear e0 hq
   go_enter Tryz.func21,Tryz.ntmps21
   go_wp2_with fail
   refine (hrb _).mono ?_
   rintro e w1 ⟨v,b',rfl,⟨x1,A1,k1,c1,s1,y1,B1,k1x,c1x,t1,rfl⟩,hbb,hq,hW⟩
   rw [HY.out] at hbb
   obtain rfl:b' =false:=hbb
   have HW:=hide (ext hW (ext_alloc w1 (.cells #[.int .i64 x1,.slice A1 k1 c1,.bool s1,.int .i64 y1,.slice B1 k1x c1x,.bool t1] 67)))
   clear hq hW hrb
   go_wp2_with fail
   go_ret2
   exact ⟨rfl,HW.out⟩
 | some q=>
   have e0:floorT (bts a)=toldOf (flr q):=by unfold floorT;rw [hq]
   rw [e0]
   have HY:=hide hq
   have hl:=rlen_of hq
   have HL:=hide (hl.more (show 50000 ≤ 33554432 by omega))
   have hl2:RLen 67108864 (flr q):=by
    unfold flr
    refine ⟨?_,?_⟩
    · show len 4294967296 (q.num / (q.den:Int)).natAbs ≤ _
      have hd:(0:Int)<q.den:=by have:=q.den_pos;omega
      have h1:(q.num / (q.den:Int)).natAbs ≤ q.num.natAbs+1:=by
       have h3:=Int.mul_ediv_add_emod q.num q.den
       have h4:=Int.emod_nonneg q.num (show (q.den:Int)≠0 by omega)
       have h5:=Int.emod_lt_of_pos q.num hd
       generalize q.num / (q.den:Int)=k at h3 ⊢
       have h6:(q.den:Int)*k ≤ q.num:=by omega
       have h7:q.num<(q.den:Int)*(k+1):=by rw [Int.mul_add];omega
       by_cases hk:0 ≤ k
       · have:k ≤ (q.den:Int)*k:=by have:=Int.mul_le_mul_of_nonneg_right (show (1:Int) ≤ q.den by omega) hk;omega
         omega
       · have:(q.den:Int)*(k+1) ≤ k+1:=by have:=Int.mul_le_mul_of_nonpos_right (show (1:Int) ≤ q.den by omega) (show k+1 ≤ 0 by omega);omega
         omega
      refine Nat.le_trans (len_mono (by omega) h1) (Nat.le_trans (len_add (by omega) _ 1) ?_)
      have h8:=len_lt_base (d:=1) (by decide)
      have:=hl.1
      omega
    · show len 4294967296 ((1:Nat):Int).natAbs ≤ _
      exact Nat.le_trans (len_lt_base (by decide)) (by omega)
   have HL2:=hide hl2
   clear e0 hq hl hl2
   go_enter Tryz.func21,Tryz.ntmps21
   go_wp2_with fail
   refine (hrb _).mono ?_
   rintro e w1 ⟨v,b',rfl,⟨x1,A1,k1,c1,s1,y1,B1,k1x,c1x,t1,rfl⟩,hbb,hq,hW⟩
   rw [HY.out] at hbb
   obtain rfl:b' =true:=hbb
   have hb1:=ext_alloc w1 (.cells #[.int .i64 x1,.slice A1 k1 c1,.bool s1,.int .i64 y1,.slice B1 k1x c1x,.bool t1] 67)
   have HQ:=hide ((hq q HY.out).below hb1)
   have HW:=hide (ext hW hb1)
   clear hq hW hb1 hrb
   go_wp2_with fail
   refine (rat_floor _ q _ HQ.out HL.out).mono ?_
   rintro e w2 ⟨v,rfl,hv,hb2⟩
   obtain ⟨x2,A2,k2,c2,s2,rfl,_,_,_⟩:=hv.form
   have hr:RatIs w2 (.agg #[.int .i64 x2,.slice A2 k2 c2,.bool s2,.int .i64 1,.slice none 0 0,.bool false]) (flr q):=
    ⟨_,_,_,_,_,_,_,_,_,_,rfl,hv,.inl ⟨1,false,rfl,by omega,by omega,rfl⟩⟩
   have HR:=hide hr
   replace HW:=hide (ext HW.out hb2)
   clear hv hr hb2
   go_wp2_with fail
   refine (told_any _ _ w2 HR.out HL2.out).mono ?_
   rintro e w3 ⟨rfl,hb3⟩
   have HB3:=hide hb3
   clear hb3
   go_wp2_with fail
   go_ret2
   exact ⟨rfl,ext HW.out HB3.out⟩
end Go.Proofs.YtnmkalocbfdecaaGreatDoor
namespace Go.Proofs.YtnmkalocbfdecaaGreatDoor
open Go.RowKit Go.Deep
def txt (q:Rat):ByteArray:=⟨(fracText q).toArray⟩
theorem bts_txt (q:Rat):bts (txt q)=fracText q:=bts_mk _
theorem txt_inj {p q:Rat} (h:txt p=txt q):p=q:=fracText_inj (by rw [← bts_txt, ← bts_txt,h])
theorem of_read {a:ByteArray} {q:Rat} (h:readFrac (bts a)=some q):a=txt q:=by
 have h1:=(readFrac_some.1 h).1
 have h2:a=⟨(bts a).toArray⟩:=by
  obtain ⟨d⟩:=a
  simp [bts]
 rw [h2,h1];rfl
theorem txt_size {q:Rat} (h:Short 50000 q):(txt q).size ≤ 1073741824:=by
 rw [← bts_length,bts_txt]
 have h1:=h.1
 have h2:=h.2
 unfold fracText
 rw [List.length_append,List.length_append]
 have h3:(if q.num<0 then [45] else []:List UInt8).length ≤ 1:=by split<;>simp
 have h4:(if q.den=1 then [] else 47 :: dec q.den:List UInt8).length ≤ 50001:=by
  split
  · simp
  · rw [List.length_cons];omega
 omega
theorem dz_text {a:ByteArray} {q:Rat} (h:readFrac (bts a)=some q) (hs:a.size ≤ 200):Dz 200 q:=by
 have h1:=(readFrac_some.1 h).1
 have h0:(bts a).length ≤ 200:=by rw [bts_length];exact hs
 have h2:(dec q.num.natAbs).length ≤ 200 ∧ (dec q.den).length ≤ 200:=by
  rw [h1] at h0
  unfold fracText at h0
  rw [List.length_append,List.length_append] at h0
  refine ⟨by omega,?_⟩
  by_cases hd:q.den=1
  · rw [hd,dec_one];decide
  · rw [if_neg hd,List.length_cons] at h0;omega
 exact Short.sz h2
theorem toldOf_yes {q:Rat} (h:Short 50000 q):toldOf q=(fracText q,0):=by unfold toldOf;rw [if_pos h]
theorem op2_txt {f:Rat → Rat → Rat} {x y:Rat} (hx:Short 50000 x) (hy:Short 50000 y) (hr:Short 50000 (f x y)):op2 f (bts (txt x)) (bts (txt y))=(fracText (f x y),0):=by
 rw [bts_txt,bts_txt,op2_yes (readFrac_text hx) (readFrac_text hy),toldOf_yes hr]
theorem Dz.s {e:Nat} {q:Rat} (h:Dz e q) (he:e<50000):Short 50000 q:=h.short he
theorem sum_txt {e f:Nat} (x y r:Rat) (hx:Dz e x) (hy:Dz f y) (hr:x+y=r) (h:e+f+1<50000) (w:World):
 Calls Tryz.prog 24 #[.string (txt x),.string (txt y)] w (RetB w (.string (txt r))):=by
 have h1:=law_sum (txt x) (txt y) w (txt_size (hx.s (by omega))) (txt_size (hy.s (by omega)))
 have h2:=op2_txt (f:=(· + ·)) (hx.s (by omega)) (hy.s (by omega)) ((Dz.add hx hy (Nat.le_refl _)).s h)
 unfold sumT at h1
 rw [h2] at h1
 rw [← hr]
 exact h1
theorem product_txt {e f:Nat} (x y r:Rat) (hx:Dz e x) (hy:Dz f y) (hr:x*y=r) (h:e+f<50000) (w:World):
 Calls Tryz.prog 25 #[.string (txt x),.string (txt y)] w (RetB w (.string (txt r))):=by
 have h1:=law_product (txt x) (txt y) w (txt_size (hx.s (by omega))) (txt_size (hy.s (by omega)))
 have h2:=op2_txt (f:=(· * ·)) (hx.s (by omega)) (hy.s (by omega)) ((Dz.mul hx hy (Nat.le_refl _)).s h)
 unfold prodT at h1
 rw [h2] at h1
 rw [← hr]
 exact h1
theorem Valid_txt {e:Nat} (x:Rat) (hx:Dz e x) (h:e<50000) (w:World):
 Calls Tryz.prog 23 #[.string (txt x)] w (RetB w (.bool true)):=by
 have h1:=valid_any (txt x) w (txt_size (hx.s h))
 rw [bts_txt,readFrac_text (hx.s h)] at h1
 exact h1
def RetOk (w:World) (s:ByteArray) (e:Ending) (w' :World):Prop:=e= .returned (.tuple #[.string s,.int .i64 0]) ∧ Below w.heap.size w w'
def RetNo (w:World) (x:Int) (e:Ending) (w' :World):Prop:=e= .returned (.tuple #[.int .i64 x,.int .i64 0]) ∧ Below w.heap.size w w'
theorem Sub_txt {e f:Nat} (x y r:Rat) (hx:Dz e x) (hy:Dz f y) (hr:x - y=r) (h:e+f+1<50000) (w:World):
 Calls Tryz.prog 11 #[.string (txt x),.string (txt y)] w (RetOk w (txt r)):=by
 have h1:=Sub_any (txt x) (txt y) w (txt_size (hx.s (by omega))) (txt_size (hy.s (by omega)))
 have h2:=op2_txt (f:=(· - ·)) (hx.s (by omega)) (hy.s (by omega)) ((Dz.sub hx hy (Nat.le_refl _)).s h)
 rw [h2] at h1
 rw [← hr]
 exact h1
theorem Div_txt {e f g:Nat} (x y r:Rat) (hx:Dz e x) (hy:Dz f y) (h0:y≠0) (hr:x / y=r) (hg:Dz g r) (he:e<50000) (hf:f<50000) (h:g<50000) (w:World):
 Calls Tryz.prog 15 #[.string (txt x),.string (txt y)] w (RetOk w (txt r)):=by
 have h1:=Div_any (txt x) (txt y) w (txt_size (hx.s he)) (txt_size (hy.s hf))
 have h2:div2 (bts (txt x)) (bts (txt y))=(fracText r,0):=by
  unfold div2
  rw [bts_txt,bts_txt,readFrac_text (hx.s he),readFrac_text (hy.s hf)]
  show (if y=0 then ([],7) else toldOf (x / y))=_
  rw [if_neg h0,hr,toldOf_yes (hg.s h)]
 rw [h2] at h1
 exact h1
theorem Cmp_txt {e f:Nat} (x y:Rat) (hx:Dz e x) (hy:Dz f y) (he:e<50000) (hf:f<50000) (w:World):
 Calls Tryz.prog 17 #[.string (txt x),.string (txt y)] w (RetNo w (cmpQ x y)):=by
 have h1:=Cmp_any (txt x) (txt y) w (txt_size (hx.s he)) (txt_size (hy.s hf))
 have h2:cmp2 (bts (txt x)) (bts (txt y))=(cmpQ x y,0):=by
  unfold cmp2
  rw [bts_txt,bts_txt,readFrac_text (hx.s he),readFrac_text (hy.s hf)]
 rw [h2] at h1
 exact h1
theorem zero_txt:(⟨#[48]⟩:ByteArray)=txt 0:=by decide
theorem one_txt:(⟨#[49]⟩:ByteArray)=txt 1:=by
 have h:fracText 1=[49]:=by
  show (if (1:Int)<0 then [45] else []) ++ dec 1 ++ (if 1=1 then [] else 47 :: dec 1)=[49]
  rw [dec_one];rfl
 show _=(⟨(fracText 1).toArray⟩:ByteArray)
 rw [h]
theorem Neg_txt {e:Nat} (x:Rat) (hx:Dz e x) (h:e<40000) (w:World):
 Calls Tryz.prog 19 #[.string (txt x)] w (RetOk w (txt (-x))):=by
 have h1:=Neg_any (txt x) w (txt_size (hx.s (by omega)))
 have h3:([48]:List UInt8)=bts (txt 0):=by rw [← zero_txt];rfl
 have h2:=op2_txt (f:=(· - ·)) (x:=0) (y:=x) ((Dz.zero 1).s (by omega)) (hx.s (by omega)) ((Dz.sub (Dz.zero 1) hx (Nat.le_refl _)).s (by omega))
 rw [h3,h2] at h1
 have h4:0 - x= -x:=by grind
 rw [← h4]
 exact h1
theorem flr_sz {e:Nat} {q:Rat} (h:Dz e q):Dz (e+1) (flr q):=by
 have hd:(0:Int)<q.den:=by have:=q.den_pos;omega
 have h3:=Int.mul_ediv_add_emod q.num q.den
 have h4:=Int.emod_nonneg q.num (show (q.den:Int)≠0 by omega)
 have h5:=Int.emod_lt_of_pos q.num hd
 have h1:(q.num / (q.den:Int)).natAbs ≤ q.num.natAbs+1:=by
  generalize q.num / (q.den:Int)=k at h3 ⊢
  have h6:(q.den:Int)*k ≤ q.num:=by omega
  have h7:q.num<(q.den:Int)*(k+1):=by rw [Int.mul_add];omega
  by_cases hk:0 ≤ k
  · have:k ≤ (q.den:Int)*k:=by have:=Int.mul_le_mul_of_nonneg_right (show (1:Int) ≤ q.den by omega) hk;omega
    omega
  · have:(q.den:Int)*(k+1) ≤ k+1:=by have:=Int.mul_le_mul_of_nonpos_right (show (1:Int) ≤ q.den by omega) (show k+1 ≤ 0 by omega);omega
    omega
 have h8:0<10 ^ e:=Nat.pow_pos (by omega)
 have h9:10 ^ (e+1)=10 ^ e*10:=Nat.pow_succ 10 e
 have h10:=h.1
 refine ⟨?_,?_⟩
 · show (q.num / (q.den:Int)).natAbs ≤ 10 ^ (e+1)
   omega
 · show 1 ≤ 10 ^ (e+1)
   omega
theorem flr_le (q:Rat):flr q ≤ q ∧ q<flr q+1:=by
 have hd:(0:Int)<q.den:=by have:=q.den_pos;omega
 have h3:=Int.mul_ediv_add_emod q.num q.den
 have h4:=Int.emod_nonneg q.num (show (q.den:Int)≠0 by omega)
 have h5:=Int.emod_lt_of_pos q.num hd
 have h6:=mul_den q
 unfold flr
 generalize q.num / (q.den:Int)=k at h3 ⊢
 generalize q.num % (q.den:Int)=m at h3 h4 h5
 have e1:((q.den:Int):Rat)*(k:Rat)+(m:Rat)=(q.num:Rat):=by rw [← h3,Rat.intCast_add,Rat.intCast_mul]
 have e2:(0:Rat) ≤ (m:Rat):=by exact_mod_cast h4
 have e3:(m:Rat)<((q.den:Int):Rat):=by exact_mod_cast h5
 have e4:(0:Rat)<((q.den:Int):Rat):=by exact_mod_cast hd
 generalize ((q.den:Int):Rat)=d at*
 generalize (k:Rat)=k at*
 generalize (m:Rat)=m at*
 have e5:(q - k)*d=m:=by grind
 constructor
 · refine Rat.not_lt.1 (fun h=>?_)
   have:(q - k)*d<0:=by
    have:=Rat.mul_pos (show 0<k - q by grind) e4
    grind
   grind
 · refine Rat.not_le.1 (fun h=>?_)
   have:d ≤ (q - k)*d:=by
    have:=Rat.mul_nonneg (show 0 ≤ q - k - 1 by grind) (show 0 ≤ d by grind)
    grind
   grind
theorem Floor_txt {e:Nat} (x:Rat) (hx:Dz e x) (h:e<40000) (w:World):
 Calls Tryz.prog 21 #[.string (txt x)] w (RetOk w (txt (flr x))):=by
 have h1:=Floor_any (txt x) w (txt_size (hx.s (by omega)))
 have h2:floorT (bts (txt x))=(fracText (flr x),0):=by
  unfold floorT
  rw [bts_txt,readFrac_text (hx.s (by omega))]
  exact toldOf_yes ((flr_sz hx).s (by omega))
 rw [h2] at h1
 exact h1
end Go.Proofs.YtnmkalocbfdecaaGreatDoor
