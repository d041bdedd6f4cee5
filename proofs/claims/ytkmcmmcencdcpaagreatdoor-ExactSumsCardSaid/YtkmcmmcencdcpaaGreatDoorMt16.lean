/- Parts of the proof: memory, numbers, walks of the functions that are called. -/
import Derived.Test.YtkmcmmcencdcpaaGreatDoorMt14
import Derived.Test.YtkmcmmcencdcpaaGreatDoorMt15
set_option linter.unusedVariables false
set_option linter.unusedSimpArgs false
set_option maxRecDepth 100000
set_option maxHeartbeats 32000000
namespace Go.Proofs.YtkmcmmcencdcpaaGreatDoor
open Go.RowKit Go.Deep
attribute [local go_sem ↓] Go.wp_at_zero Go.wp_at_succ
theorem zbi {z:Int} (h:len 4294967296 z.natAbs<=67108864):(xf z).length<=671088642:=by
 have:=ZE h
 unfold xf
 split
 . rw [List.length_cons];omega
 . omega
theorem zek {q:Rat} (h:q.den=1):zT q=xf q.num:=by
 unfold zT xf
 rw [if_pos h]
 by_cases h0:q.num<0
 . rw [if_pos h0,if_pos h0];simp
 . rw [if_neg h0,if_neg h0];simp
theorem zen {q:Rat} (h:q.den≠1):zT q=xf q.num ++ 47 :: xf (q.den:Int):=by
 have hd:xf (q.den:Int)=dec q.den:=by unfold xf;rw [if_neg (by omega),Int.natAbs_natCast]
 rw [hd]
 unfold zT xf
 rw [if_neg h]
 by_cases h0:q.num<0
 . rw [if_pos h0,if_pos h0];simp
 . rw [if_neg h0,if_neg h0];simp
theorem zdh (a b:List UInt8):(⟨a.toArray⟩:ByteArray) ++ (⟨b.toArray⟩:ByteArray)=⟨(a ++ b).toArray⟩:=by
 apply ByteArray.ext
 rw [ByteArray.data_append]
 simp
theorem zR.one {w:World} {y d:Int} {B:Option Addr} {k c:Nat} {t:Bool} (h:zR w (.agg #[.int .i64 y,.slice B k c,.bool t]) d):d=1↔(B=none/\y=1):=by
 rcases h with ⟨x,ng,e,h1,h2,rfl⟩ | ⟨ad,k',c',n,ng,e,h1,h2,rfl⟩
 . injection e with e
   have e0:=congrArg (fun a=>a.toList) e;simp at e0;obtain ⟨rfl,⟨rfl,rfl,rfl⟩,rfl⟩:=e0
   simp
 . injection e with e
   have e0:=congrArg (fun a=>a.toList) e;simp at e0;obtain ⟨rfl,⟨rfl,rfl,rfl⟩,rfl⟩:=e0
   constructor
   . intro h
     split at h<;>omega
   . intro h;cases h.1
theorem zaa (va:Value) (q:Rat) (w:World) (ha:yC w va q) (hl:ZW 67108864 q):
 Calls Tryz.prog 79 #[va] w (zhi w (zT q)):=by
 obtain ⟨x1,A1,k1,c1,s1,y1,B1,k1x,c1x,t1,rfl,ha1,ha2⟩:=ha
 have h1:=zR.one ha2
 have HB:=ze (zf w (.cells #[.int .i64 x1,.slice A1 k1 c1,.bool s1,.int .i64 y1,.slice B1 k1x c1x,.bool t1] 93))
 have HA:=ze (ha1.below HB.out)
 have HAN:=ze ha1
 have HAD:=ze ha2
 have HL1:=ze hl.1
 have HL2:=ze hl.2
 have q0:=fun w=>zjt w B1 k1x c1x 0 0
 by_cases hd:q.den=1
 . obtain ⟨rfl,rfl⟩:=h1.1 (by omega)
   rw [zek hd];clear h1 ha1 ha2 hd hl
   go_enter Tryz.func79,Tryz.ntmps79
   go_wp2_with fail;refine (XA _ q.num _ HA.out HL1.out).mono ?_;rintro e w1 ⟨rfl,hb1⟩;go_wp2;go_ret;exact ⟨rfl,ext HB.out hb1⟩
 . have hl1:=zbi HL1.out
   have hl2:=zbi HL2.out;have HT:=ze (zen hd);have hno:¬ (B1=none/\y1=1):=fun h=>hd (by have:=h1.2 h;omega)
   have hs1:¬ 9223372036854775807<(xf q.num).length+1:=by omega
   have hs2:¬ 9223372036854775807<(xf q.num).length+1+(xf (q.den:Int)).length:=by omega
   clear h1 ha1 ha2 hd hl hl1 hl2
   have hB0:B1=none->((y1:Int) == 1)=false:=by
    intro e;rw [beq_eq_false_iff_ne];exact fun h=>hno ⟨e,h⟩
   clear hno
   rcases B1 with _ | bd
   . have hy1:=hB0 rfl
     clear hB0;have HWX:Hid (Below w.heap.size w ((w.alloc (.cells #[.int .i64 x1,.slice A1 k1 c1,.bool s1,.int .i64 y1,.slice none k1x c1x,.bool t1] 93)).drew)):=ze (zl HB.out 1);clear HB HA
     go_enter Tryz.func79,Tryz.ntmps79
     go_wp2_with fail
     go_region_held3 (fun w' =>w'.cell? ⟨w.heap.size,0,none⟩=some (.int .i64 x1)/\w'.cell? ⟨w.heap.size,1,none⟩=some (.slice A1 k1 c1)/\w'.cell? ⟨w.heap.size,2,none⟩=some (.bool s1)/\w'.cell? ⟨w.heap.size,3,none⟩=some (.int .i64 y1)/\w'.cell? ⟨w.heap.size,4,none⟩=some (.slice none k1x c1x)/\w'.cell? ⟨w.heap.size,5,none⟩=some (.bool t1)/\w.heap.size<w'.heap.size/\Hid (Below w.heap.size w w'))
      (first
        | with_reducible exact ⟨by go_keep,by go_keep,by go_keep,by go_keep,by go_keep,by go_keep,by first | (simp;done) | (simp;omega),HWX⟩
        | (go_split_ands;with_reducible exact ⟨zj ‹_› ‹_› ‹_›,zj ‹_› ‹_› ‹_›,zj ‹_› ‹_› ‹_›,zj ‹_› ‹_› ‹_›,zj ‹_› ‹_› ‹_›,zj ‹_› ‹_› ‹_›,zE ‹_› ‹_›,zt ‹_› ‹_›⟩)
        | go_keep)
      (first
        | (go_at_call_of 141 (Value.agg #[.int .i64 x1,.slice A1 k1 c1,.bool s1]);refine (XA _ q.num _ (HAN.out.below (zI (by go_split_ands;assumption))) HL1.out).mono ?_;rintro e w1 ⟨rfl,hb1⟩)
        | (go_at_call_of 141 (Value.agg #[.int .i64 y1,.slice none k1x c1x,.bool t1]);refine (XA _ (q.den:Int) _ (HAD.out.below (zI (by go_split_ands;assumption))) HL2.out).mono ?_;rintro e w2 ⟨rfl,hb2⟩))
     all_goals
      go_split_ands;have hRW:=zI (by assumption:Hid (Below w.heap.size w w2));go_wp2;go_ret;refine ⟨?_,hRW⟩;rw [HT.out,show xf q.num ++ 47 :: xf (q.den:Int)=(xf q.num ++ [47]) ++ xf (q.den:Int) by simp, <- zdh, <- zdh]
      rfl
   . clear hB0
     have HWX:Hid (Below w.heap.size w ((w.alloc (.cells #[.int .i64 x1,.slice A1 k1 c1,.bool s1,.int .i64 y1,.slice (some bd) k1x c1x,.bool t1] 93)).drew)):=ze (zl HB.out 1);clear HB HA
     go_enter Tryz.func79,Tryz.ntmps79
     go_wp2_with fail
     go_region_held3 (fun w' =>w'.cell? ⟨w.heap.size,0,none⟩=some (.int .i64 x1)/\w'.cell? ⟨w.heap.size,1,none⟩=some (.slice A1 k1 c1)/\w'.cell? ⟨w.heap.size,2,none⟩=some (.bool s1)/\w'.cell? ⟨w.heap.size,3,none⟩=some (.int .i64 y1)/\w'.cell? ⟨w.heap.size,4,none⟩=some (.slice (some bd) k1x c1x)/\w'.cell? ⟨w.heap.size,5,none⟩=some (.bool t1)/\w.heap.size<w'.heap.size/\Hid (Below w.heap.size w w'))
      (first
        | with_reducible exact ⟨by go_keep,by go_keep,by go_keep,by go_keep,by go_keep,by go_keep,by first | (simp;done) | (simp;omega),HWX⟩
        | (go_split_ands;with_reducible exact ⟨zj ‹_› ‹_› ‹_›,zj ‹_› ‹_› ‹_›,zj ‹_› ‹_› ‹_›,zj ‹_› ‹_› ‹_›,zj ‹_› ‹_› ‹_›,zj ‹_› ‹_› ‹_›,zE ‹_› ‹_›,zt ‹_› ‹_›⟩)
        | go_keep)
      (first
        | (go_at_call_of 141 (Value.agg #[.int .i64 x1,.slice A1 k1 c1,.bool s1]);refine (XA _ q.num _ (HAN.out.below (zI (by go_split_ands;assumption))) HL1.out).mono ?_;rintro e w1 ⟨rfl,hb1⟩)
        | (go_at_call_of 141 (Value.agg #[.int .i64 y1,.slice (some bd) k1x c1x,.bool t1]);refine (XA _ (q.den:Int) _ (HAD.out.below (zI (by go_split_ands;assumption))) HL2.out).mono ?_;rintro e w2 ⟨rfl,hb2⟩))
     all_goals
      go_split_ands;have hRW:=zI (by assumption:Hid (Below w.heap.size w w2));go_wp2;go_ret;refine ⟨?_,hRW⟩;rw [HT.out,show xf q.num ++ 47 :: xf (q.den:Int)=(xf q.num ++ [47]) ++ xf (q.den:Int) by simp, <- zdh, <- zdh]
      rfl
theorem VT (M:Nat) (q:Rat):(!decide (yE M q))=(decide (M<(dec q.num.natAbs).length) || decide (M<(dec q.den).length)):=by
 by_cases h1:(dec q.num.natAbs).length<=M
 . by_cases h2:(dec q.den).length<=M
   . rw [decide_eq_true (show yE M q from ⟨h1,h2⟩),decide_eq_false (by omega),decide_eq_false (by omega)];rfl
   . rw [decide_eq_false (fun h:yE M q=>h2 h.2),decide_eq_true (show M<(dec q.den).length by omega),Bool.or_true];rfl
 . rw [decide_eq_false (fun h:yE M q=>h1 h.1),decide_eq_true (show M<(dec q.num.natAbs).length by omega)];rfl
theorem y6.slice {w:World} {v:Value} {n:Nat} (h:y6 w v n):∃ A c,v= .slice A (len 4294967296 n) c:=by
 obtain ⟨A',c',ds,e,h1,h2,h3,h4,h5⟩:=h
 refine ⟨A',c',?_⟩
 rw [e, <- h5,h4.length_eq (by omega)]
theorem YW {n M:Nat} (h:len 4294967296 n*10<=M) (hM:1<=M):(dec n).length<=M:=by
 by_cases h0:n=0
 . subst h0;rw [xV];simpa using hM
 . rw [zca n h0]
   have h4:len 10 n<=10*len 4294967296 n:=by
    apply yt (by omega)
    have h1:=xH (β:=4294967296) (by omega) n;have h2:4294967296 ^ len 4294967296 n<=(10 ^ 10) ^ len 4294967296 n:=Nat.pow_le_pow_left (by omega) _;rw [<- Nat.pow_mul] at h2;exact Nat.lt_of_lt_of_le h1 h2
   omega
theorem zdm (va:Value) (q:Rat) (M:Nat) (w:World) (ha:yC w va q) (hl:ZW 67108864 q) (h1M:1<=M) (hM2:M<=1000000):
 Calls Tryz.prog 90 #[va,.int .i64 M] w (Vc w (.bool (!decide (yE M q)))):=by
 obtain ⟨x1,A1,k1,c1,s1,y1,B1,k1x,c1x,t1,rfl,ha1,ha2⟩:=ha
 have hW:=zf w (.cells #[.int .i64 x1,.slice A1 k1 c1,.bool s1,.int .i64 y1,.slice B1 k1x c1x,.bool t1] 93)
 have HA:=ze (ha1.below hW)
 have HD:=ze (ha2.below hW)
 have HW:=ze hW
 have HL1:=ze hl.1
 have HL2:=ze hl.2
 have kB:=Blk.new w 93 #[.int .i64 x1,.slice A1 k1 c1,.bool s1,.int .i64 y1,.slice B1 k1x c1x,.bool t1]
 have HK:=ze kB
 clear ha1 ha2 hl hW kB
 go_enter Tryz.func90,Tryz.ntmps90
 go_wp2_with fail
 refine (vW _ q.num _ HA.out).mono ?_
 rintro e w1 ⟨p,rfl,hp,hb1⟩
 have kB1:=HK.out.below hb1 HK.out.lt
 have b3:=kB1.cell 3
 have b4:=kB1.cell 4
 have b5:=kB1.cell 5
 simp at b3 b4 b5
 have HP:=ze hp
 have HB1:=ze hb1
 clear hp hb1 kB1
 go_wp2_with fail
 refine (vW _ (q.den:Int) _ (HD.out.below HB1.out)).mono ?_
 rintro e w2 ⟨p',rfl,hp',hb2⟩
 obtain ⟨A2,c2,rfl⟩:=HP.out.slice
 obtain ⟨A3,c3,rfl⟩:=hp'.slice
 have HP2:=ze (HP.out.below hb2)
 have HP' :=ze hp'
 have HW2:=ze (ext (ext HW.out HB1.out) hb2)
 clear b3 b4 b5 hp' hb2
 have hk1:len 4294967296 q.num.natAbs<=67108864:=HL1.out
 have hk2:len 4294967296 (q.den:Int).natAbs<=67108864:=HL2.out
 obtain ⟨a,hA⟩:∃ a,a=len 4294967296 q.num.natAbs:=⟨_,rfl⟩
 obtain ⟨b,hB⟩:∃ b,b=len 4294967296 (q.den:Int).natAbs:=⟨_,rfl⟩
 rw [<- hA] at hk1
 rw [<- hB] at hk2
 rw [<- hA] at HP2
 rw [<- hB] at HP'
 have HA' :=ze hA
 have HB' :=ze hB
 rw [<- hA, <- hB]
 clear hA hB
 rcases (show a<=b\/b<a by omega) with hab | hab
 . by_cases hm:b*10<=M
   . have HS:=ze (show yE M q from ⟨YW (by rw [<- HA'.out];omega) h1M,by have:=YW (n:=(q.den:Int).natAbs) (by rw [<- HB'.out];omega) h1M;rwa [Int.natAbs_natCast] at this⟩)
     have HR:=ze (show (!decide (yE M q))=false by rw [decide_eq_true HS.out];rfl);go_wp2_with fail;go_ret;exact ⟨zU HR.out,HW2.out⟩
   . have hm' :¬ (b:Int)*10<=(M:Int):=by omega
     have hd1:=ZE HL1.out;go_wp2_with fail;refine (ZX _ _ _ HP2.out HL1.out).mono ?_;rintro e w3 ⟨rfl,hb3⟩;have HP3:=ze (HP'.out.below hb3);have HW3:=ze (ext HW2.out hb3);clear hb3
     by_cases h1:(dec q.num.natAbs).length<=M
     . have hd2:=ZE HL2.out
       have hI1:¬ (M:Int)<((dec q.num.natAbs).length:Int):=by omega
       have HQ:=ze h1;clear h1
       by_cases h2:(dec (q.den:Int).natAbs).length<=M
       . have HR:=ze (show (!decide (yE M q))=false by rw [decide_eq_true ⟨HQ.out,by rw [Int.natAbs_natCast] at h2;exact h2⟩];rfl)
         have hI2:¬ (M:Int)<((dec (q.den:Int).natAbs).length:Int):=by omega
         clear h2;go_wp2_with fail;refine (ZX _ _ _ HP3.out HL2.out).mono ?_;rintro e w4 ⟨rfl,hb4⟩;go_wp2_with fail;go_ret;exact ⟨zU (VT M q),ext HW3.out hb4⟩
       . have HR:=ze (show (!decide (yE M q))=true by rw [decide_eq_false (fun h=>h2 (by rw [Int.natAbs_natCast];exact h.2))];rfl)
         have hI2:(M:Int)<((dec (q.den:Int).natAbs).length:Int):=by omega
         clear h2;go_wp2_with fail;refine (ZX _ _ _ HP3.out HL2.out).mono ?_;rintro e w4 ⟨rfl,hb4⟩;go_wp2_with fail;go_ret;exact ⟨zU (VT M q),ext HW3.out hb4⟩
     . have HR:=ze (show (!decide (yE M q))=true by rw [decide_eq_false (fun h=>h1 h.1)];rfl)
       have hI1:(M:Int)<((dec q.num.natAbs).length:Int):=by omega
       clear h1;go_wp2_with fail;go_ret;exact ⟨zU HR.out,HW3.out⟩
 . by_cases hm:a*10<=M
   . have HS:=ze (show yE M q from ⟨YW (by rw [<- HA'.out];omega) h1M,by have:=YW (n:=(q.den:Int).natAbs) (by rw [<- HB'.out];omega) h1M;rwa [Int.natAbs_natCast] at this⟩)
     have HR:=ze (show (!decide (yE M q))=false by rw [decide_eq_true HS.out];rfl);go_wp2_with fail;go_ret;exact ⟨zU HR.out,HW2.out⟩
   . have hm' :¬ (a:Int)*10<=(M:Int):=by omega
     have hd1:=ZE HL1.out;go_wp2_with fail;refine (ZX _ _ _ HP2.out HL1.out).mono ?_;rintro e w3 ⟨rfl,hb3⟩;have HP3:=ze (HP'.out.below hb3);have HW3:=ze (ext HW2.out hb3);clear hb3
     by_cases h1:(dec q.num.natAbs).length<=M
     . have hd2:=ZE HL2.out
       have hI1:¬ (M:Int)<((dec q.num.natAbs).length:Int):=by omega
       have HQ:=ze h1;clear h1
       by_cases h2:(dec (q.den:Int).natAbs).length<=M
       . have HR:=ze (show (!decide (yE M q))=false by rw [decide_eq_true ⟨HQ.out,by rw [Int.natAbs_natCast] at h2;exact h2⟩];rfl)
         have hI2:¬ (M:Int)<((dec (q.den:Int).natAbs).length:Int):=by omega
         clear h2;go_wp2_with fail;refine (ZX _ _ _ HP3.out HL2.out).mono ?_;rintro e w4 ⟨rfl,hb4⟩;go_wp2_with fail;go_ret;exact ⟨zU (VT M q),ext HW3.out hb4⟩
       . have HR:=ze (show (!decide (yE M q))=true by rw [decide_eq_false (fun h=>h2 (by rw [Int.natAbs_natCast];exact h.2))];rfl)
         have hI2:(M:Int)<((dec (q.den:Int).natAbs).length:Int):=by omega
         clear h2;go_wp2_with fail;refine (ZX _ _ _ HP3.out HL2.out).mono ?_;rintro e w4 ⟨rfl,hb4⟩;go_wp2_with fail;go_ret;exact ⟨zU (VT M q),ext HW3.out hb4⟩
     . have HR:=ze (show (!decide (yE M q))=true by rw [decide_eq_false (fun h=>h1 h.1)];rfl)
       have hI1:(M:Int)<((dec q.num.natAbs).length:Int):=by omega
       clear h1;go_wp2_with fail;go_ret;exact ⟨zU HR.out,HW3.out⟩
def Zn (q:Rat):List UInt8×Int:=if yE 50000 q then (zT q,0) else ([],3)
def zoy (w:World) (r:List UInt8×Int) (e:Ending) (w' :World):Prop:=e= .returned (.tuple #[str r.1,.int .i64 r.2])/\Below w.heap.size w w'
theorem zie (va:Value) (q:Rat) (w:World) (ha:yC w va q) (hl:ZW 67108864 q):
 Calls Tryz.prog 43 #[va] w (zoy w (Zn q)):=by
 obtain ⟨x1,A1,k1,c1,s1,y1,B1,k1x,c1x,t1,rfl,ha1,ha2⟩:=ha
 have hW:=zf w (.cells #[.int .i64 x1,.slice A1 k1 c1,.bool s1,.int .i64 y1,.slice B1 k1x c1x,.bool t1] 93)
 have HR:=ze (show yC _ _ q from ⟨_,_,_,_,_,_,_,_,_,_,rfl,ha1.below hW,ha2.below hW⟩)
 have HW:=ze hW
 have HL:=ze hl
 have kB:=Blk.new w 93 #[.int .i64 x1,.slice A1 k1 c1,.bool s1,.int .i64 y1,.slice B1 k1x c1x,.bool t1]
 have HK:=ze kB
 clear ha1 ha2 hl hW kB
 have hlg:=fun v w h hl=>zdm v q 50000 w h hl (by omega) (by omega)
 by_cases hs:yE 50000 q
 . have e1:(!decide (yE 50000 q))=false:=by rw [decide_eq_true hs];rfl
   have e2:Zn q=(zT q,0):=by unfold Zn;rw [if_pos hs]
   rw [e1] at hlg;rw [e2];clear e1 e2 hs
   go_enter Tryz.func43,Tryz.ntmps43
   go_wp2_with fail;refine (hlg _ _ HR.out HL.out).mono ?_;rintro e w1 ⟨rfl,hb1⟩;have kB1:=HK.out.below hb1 HK.out.lt;have b0:=kB1.cell 0;have b1:=kB1.cell 1;have b2:=kB1.cell 2;have b3:=kB1.cell 3;have b4:=kB1.cell 4;have b5:=kB1.cell 5;simp at b0 b1 b2 b3 b4 b5;have HB1:=ze hb1;clear hb1 kB1;go_wp2_with fail;refine (zaa _ q w1 (HR.out.below HB1.out) HL.out).mono ?_;rintro e w2 ⟨rfl,hb2⟩;have HB2:=ze hb2;clear hb2;go_wp2_with fail;go_ret2;exact ⟨rfl,ext (ext HW.out HB1.out) HB2.out⟩
 . have e1:(!decide (yE 50000 q))=true:=by rw [decide_eq_false hs];rfl
   have e2:Zn q=([],3):=by unfold Zn;rw [if_neg hs]
   rw [e1] at hlg;rw [e2];clear e1 e2 hs
   go_enter Tryz.func43,Tryz.ntmps43
   go_wp2_with fail;refine (hlg _ _ HR.out HL.out).mono ?_;rintro e w1 ⟨rfl,hb1⟩;have HB1:=ze hb1;clear hb1;go_wp2_with fail;go_ret2;exact ⟨rfl,ext HW.out HB1.out⟩
theorem Vx {w w' :World} {v:Value} {z:Int} (hb:Below w.heap.size w w') (h:Hid (zR w v z)):Hid (zR w' v z):=h.out.below hb
theorem Zj {w:World} {g:Nat} {v:Value} {z x y:Int} {A B:Option Addr} {k c k' c' :Nat} {s t:Bool} (hr:Hid (Xw w g)) (h:Hid (zR w v z)):Hid (zR (World.rat w g x A k c s y B k' c' t) v z):=by
 obtain ⟨x,A,k,c,s,y,B,k',c',t,hr⟩:=hr.out
 exact yI h.out hr
def zq3 (v:Value):Prop:=∃ (x:Int) (A:Option Addr) (k c:Nat) (s:Bool) (y:Int) (B:Option Addr) (k' c' :Nat) (t:Bool),v= .agg #[.int .i64 x,.slice A k c,.bool s,.int .i64 y,.slice B k' c',.bool t]
def xN (w:World) (l:List UInt8) (e:Ending) (w' :World):Prop:=
 ∃ v b,e= .returned (.tuple #[v,.bool b])/\zq3 v/\b=(zp l).isSome/\(∀ q,zp l=some q->yC w' v q)/\Below w.heap.size w w'
theorem xN.no {w w' :World} {l:List UInt8} {v:Value} (h:zp l=none) (hv:zq3 v) (hb:Below w.heap.size w w'):xN w l (.returned (.tuple #[v,.bool false])) w' :=
 ⟨v,false,rfl,hv,by rw [h];rfl,fun q hq=>(by rw [h] at hq;cases hq),hb⟩
theorem xN.yes {w w' :World} {l:List UInt8} {v:Value} {q:Rat} (h:zp l=some q) (hv:yC w' v q) (hb:Below w.heap.size w w'):xN w l (.returned (.tuple #[v,.bool true])) w' :=by
 refine ⟨v,true,rfl,?_,(by rw [h];rfl),fun q' hq=>?_,hb⟩
 . obtain ⟨x,A,k,c,s,y,B,k',c',t,rfl,_,_⟩:=hv
   exact ⟨x,A,k,c,s,y,B,k',c',t,rfl⟩
 . rw [h] at hq;injection hq with hq;rw [<- hq];exact hv
theorem xN.maybe {w w' :World} {l:List UInt8} {v:Value} {q:Rat} {d:Nat} (h:zp l=if q.den=d then some q else none) (hv:yC w' v q) (hb:Below w.heap.size w w'):
 xN w l (.returned (.tuple #[v,.bool (zK (q.den:Int) (signed false d) == 0)])) w' :=by
 have e:(zK (q.den:Int) (signed false d) == 0)=decide (q.den=d):=by
  unfold zK signed
  simp only [Bool.false_eq_true,if_false]
  rcases Nat.lt_trichotomy q.den d with h1 | h1 | h1
  . rw [if_pos (by omega),decide_eq_false (by omega)];rfl
  . rw [if_neg (by omega),if_neg (by omega),decide_eq_true h1];rfl
  . rw [if_neg (by omega),if_pos (by omega),decide_eq_false (by omega)];rfl
 rw [e]
 by_cases hd:q.den=d
 . rw [decide_eq_true hd]
   rw [if_pos hd] at h;exact xN.yes h hv hb
 . rw [decide_eq_false hd]
   rw [if_neg hd] at h;obtain ⟨x,A,k,c,s,y,B,k',c',t,rfl,_,_⟩:=hv;exact xN.no h ⟨x,A,k,c,s,y,B,k',c',t,rfl⟩ hb
theorem Vm (a:ByteArray) (c:UInt8):(a.toList == [c])=decide (bts a=[c]):=by
 rw [Lib.toList_data]
 unfold bts
 rw [Bool.eq_iff_iff,beq_iff_eq,decide_eq_true_iff]
theorem zfv (w:World):zR w (.agg #[.int .i64 1,.slice none 0 0,.bool false]) 1:=.inl ⟨1,false,rfl,by omega,by omega,rfl⟩
theorem ZQ (s:Bool) (n d:Nat):Rat.divInt (signed s n) (signed false d)=x9 s n d:=by
 unfold x9 signed
 cases s<;>simp
theorem xZ {s:Bool} {n M:Nat} (h:len 4294967296 n<=M):len 4294967296 (signed s n).natAbs<=M:=by
 unfold signed
 cases s<;>simpa using h
theorem YP (s:ByteArray) (w:World) (hs:s.size<=1073741824):
 Calls Tryz.prog 67 #[.string s] w (xN w (bts s)):=by
 have hcp:=fun w=>zc6 s w hs
 have kR:=Blk.new w 93 #[.int .i64 0,.slice none 0 0,.bool false,.int .i64 0,.slice none 0 0,.bool false]
 have hWR:=zf w (.cells #[.int .i64 0,.slice none 0 0,.bool false,.int .i64 0,.slice none 0 0,.bool false] 93)
 go_enter Tryz.func67,Tryz.ntmps67
 go_wp2_with fail
 refine (hcp _).mono ?_
 rintro e w1 ⟨u,rfl,hu,rfl⟩
 have hus:u.size<=1073741824:=by
  rw [<- zo,hu]
  unfold zq
  have:=zo s
  split
  . rw [List.length_tail];omega
  . omega
 have hct:=fun w=>zqb u 47 w hus
 obtain ⟨neg,hneg⟩:∃ neg,neg=yD (bts s):=⟨_,rfl⟩
 rw [<- hneg]
 have HU:=ze hu
 have HN:=ze hneg
 clear hcp hu hneg
 go_wp2_with fail
 refine (hct _).mono ?_
 rintro e w1 ⟨a,b,rfl,ha,hb,n1,rfl⟩
 rw [HU.out] at ha hb |-
 obtain ⟨is_,his⟩:∃ is_,is_=has 47 (zq (bts s)):=⟨_,rfl⟩
 rw [<- his] at hb |-
 have has1:a.size<=1073741824:=by
  have h1:(ahead 47 (zq (bts s))).length<=(zq (bts s)).length:=(List.takeWhile_sublist _).length_le
  rw [<- ha, <- HU.out,zo,zo] at h1
  omega
 have hbs1:b.size<=1073741824:=by
  rw [<- zo,hb]
  split
  . have h1:(ym 47 (zq (bts s))).length<=(zq (bts s)).length:=by
     unfold ym;rw [List.length_tail];have:=(List.dropWhile_sublist (fun x=>x != (47:UInt8)) (l:=zq (bts s))).length_le
     omega
    rw [<- HU.out,zo] at h1;rw [HU.out] at h1
    omega
  . simp
 have hpa:=fun w=>zev a w has1
 have hpb:=fun w=>zev b w hbs1
 have za:=Vm a 48
 have zb:=Vm b 48
 have zc:=Vm b 49
 rw [ha] at hpa za
 have HA:=ze ha
 have HB:=ze hb
 have HI:=ze his
 have HS:=ze hs
 have kR1:=kR.drewN n1
 have hWR1:=zl hWR n1
 clear hct ha hb his hus has1 hbs1 hs kR hWR
 generalize (w.alloc (.cells #[.int .i64 0,.slice none 0 0,.bool false,.int .i64 0,.slice none 0 0,.bool false] 93)).drewN n1=w1 at kR1 hWR1 |-
 have lR:=kR1.lt
 have r0:=kR1.cell 0
 have r1:=kR1.cell 1
 have r2:=kR1.cell 2
 have r3:=kR1.cell 3
 have r4:=kR1.cell 4
 have r5:=kR1.cell 5
 have f0:=kR1.frozen 0
 have f1:=kR1.frozen 1
 have f2:=kR1.frozen 2
 have f3:=kR1.frozen 3
 have f4:=kR1.frozen 4
 have f5:=kR1.frozen 5
 simp at r0 r1 r2 r3 r4 r5
 have HKR:=ze kR1
 have HWR:=ze hWR1
 clear kR1 hWR1
 cases hpl:yf (ahead 47 (zq (bts s))) with
 | false=>
   have HP:=ze (zoi hpl);rw [hpl] at hpa;clear hpl za zb zc hpb;go_wp2_with fail;refine (hpa _).mono ?_;rintro e w2 ⟨rfl,rfl⟩;go_wp2_with fail;have kR2:=yu (x:=0) (A:=none) (k:=0) (c:=0) (s:=false) (y:=0) (B:=none) (k' :=0) (c' :=0) (t:=false) HKR.out;have e0:=kR2.cell 0;have e1:=kR2.cell 1;have e2:=kR2.cell 2;have e3:=kR2.cell 3;have e4:=kR2.cell 4;have e5:=kR2.cell 5;simp only [World.rat] at e0 e1 e2 e3 e4 e5;simp at e0 e1 e2 e3 e4 e5;refine bodyPost_ret (v:=.tuple #[.agg #[.int .i64 0,.slice none 0 0,.bool false,.int .i64 0,.slice none 0 0,.bool false],.bool false]) (by simp [results,Tryz.results67,go_sem,e0,e1,e2,e3,e4,e5]) rfl ?_;exact xN.no HP.out ⟨_,_,_,_,_,_,_,_,_,_,rfl⟩ (yp (x:=0) (A:=none) (k:=0) (c:=0) (s:=false) (y:=0) (B:=none) (k' :=0) (c' :=0) (t:=false) HWR.out (Nat.le_refl _))
 | true=>
   have HPL:=ze hpl;rw [hpl] at hpa;clear hpl;go_wp2_with fail;refine (hpa _).mono ?_;rintro e w2 ⟨rfl,rfl⟩;clear hpa
   cases neg with
   | false=>
     cases za1:(a.toList == [48]) with
     | true=>
       cases is_ with
       | false=>
         have HP:=ze (Vh HPL.out (fun h=>by rw [<- HN.out] at h;cases h) HI.out.symm);have HC:=ze (ZM HPL.out);rw [<- HN.out] at HP;have HAS:=ze (show a.size<=50000 by rw [<- zo,HA.out];exact HC.out.2);clear za zb zc hpb;go_wp2_with fail;refine (ZI a _ (by rw [HA.out];exact HC.out.1) HAS.out).mono ?_;rintro e w2 ⟨v,rfl,hv,hb2⟩;rw [HA.out] at hv;have HV:=ze hv;have HKR2:=ze (HKR.out.below hb2 lR);have HWR2:=ze (ext HWR.out hb2);clear hv hb2 r0 r1 r2 r3 r4 r5 f0 f1 f2 f3 f4 f5;go_wp2_with fail;refine (yi false v _ w2 HV.out).mono ?_;rintro e w3 ⟨v3,rfl,hv3,hb3⟩;obtain ⟨x',A',k',c',ng',rfl,_,_,_⟩:=hv3.form;have hb4:=zf w3 (.cells #[.int .i64 x',.slice A' k' c',.bool ng'] 91);have HV3:=ze (hv3.below hb4);have kR3:=(HKR2.out.below hb3 HKR2.out.lt).below hb4 (HKR2.out.below hb3 HKR2.out.lt).lt;have HWR3:=ze (ext (ext HWR2.out hb3) hb4);have HKR3:=ze kR3;have r0:=kR3.cell 0;have r1:=kR3.cell 1;have r2:=kR3.cell 2;have r3:=kR3.cell 3;have r4:=kR3.cell 4;have r5:=kR3.cell 5;have f0:=kR3.frozen 0;have f1:=kR3.frozen 1;have f2:=kR3.frozen 2;have f3:=kR3.frozen 3;have f4:=kR3.frozen 4
         have f5:=kR3.frozen 5;simp at r0 r1 r2 r3 r4 r5;have kX:=Blk.new w3 91 #[.int .i64 x',.slice A' k' c',.bool ng'];have g0:=kX.cell 0;have g1:=kX.cell 1;have g2:=kX.cell 2;simp at g0 g1 g2;clear hb3 hv3 hb4 kR3 kX lR;go_wp2_with fail;have kR4:=yu (x:=x') (A:=A') (k:=k') (c:=c') (s:=ng') (y:=1) (B:=none) (k' :=0) (c' :=0) (t:=false) HKR3.out;have e0:=kR4.cell 0;have e1:=kR4.cell 1;have e2:=kR4.cell 2;have e3:=kR4.cell 3;have e4:=kR4.cell 4;have e5:=kR4.cell 5;simp only [World.rat] at e0 e1 e2 e3 e4 e5;simp at e0 e1 e2 e3 e4 e5;refine bodyPost_ret (v:=.tuple #[.agg #[.int .i64 x',.slice A' k' c',.bool ng',.int .i64 1,.slice none 0 0,.bool false],.bool true]) (by simp [results,Tryz.results67,go_sem,e0,e1,e2,e3,e4,e5]) rfl ?_;refine xN.yes HP.out ⟨_,_,_,_,_,_,_,_,_,_,rfl,?_,?_⟩ (yp HWR3.out (Nat.le_refl _))
         . rw [(Yj _ _).1]
           exact yI HV3.out HKR3.out
         . rw [(Yj _ _).2]
           exact zfv _
       | true=>
         cases hpb2:yf (bts b) with
         | false=>
           have HP:=ze (Zl HI.out.symm (.inl (by have:=HB.out;rw [if_pos rfl] at this;rw [<- this];exact hpb2)));rw [hpb2] at hpb;clear hpb2 za zb zc;go_wp2_with fail;refine (hpb _).mono ?_;rintro e w2 ⟨rfl,rfl⟩;go_wp2_with fail;have kR2:=yu (x:=0) (A:=none) (k:=0) (c:=0) (s:=false) (y:=0) (B:=none) (k' :=0) (c' :=0) (t:=false) HKR.out;have e0:=kR2.cell 0;have e1:=kR2.cell 1;have e2:=kR2.cell 2;have e3:=kR2.cell 3;have e4:=kR2.cell 4;have e5:=kR2.cell 5;simp only [World.rat] at e0 e1 e2 e3 e4 e5;simp at e0 e1 e2 e3 e4 e5;refine bodyPost_ret (v:=.tuple #[.agg #[.int .i64 0,.slice none 0 0,.bool false,.int .i64 0,.slice none 0 0,.bool false],.bool false]) (by simp [results,Tryz.results67,go_sem,e0,e1,e2,e3,e4,e5]) rfl ?_;exact xN.no HP.out ⟨_,_,_,_,_,_,_,_,_,_,rfl⟩ (yp (x:=0) (A:=none) (k:=0) (c:=0) (s:=false) (y:=0) (B:=none) (k' :=0) (c' :=0) (t:=false) HWR.out (Nat.le_refl _))
         | true=>
           have HPB:=ze hpb2;rw [hpb2] at hpb;clear hpb2
           cases zb1:(b.toList == [48]) with
           | true=>
             have HP:=ze (Zl HI.out.symm (.inr (.inl (by have:=HB.out;rw [if_pos rfl] at this;rw [<- this];exact of_decide_eq_true (zb.symm.trans zb1)))));clear za zb zc;go_wp2_with fail;refine (hpb _).mono ?_;rintro e w2 ⟨rfl,rfl⟩;go_wp2_with fail;have kR2:=yu (x:=0) (A:=none) (k:=0) (c:=0) (s:=false) (y:=0) (B:=none) (k' :=0) (c' :=0) (t:=false) HKR.out;have e0:=kR2.cell 0;have e1:=kR2.cell 1;have e2:=kR2.cell 2;have e3:=kR2.cell 3;have e4:=kR2.cell 4;have e5:=kR2.cell 5;simp only [World.rat] at e0 e1 e2 e3 e4 e5;simp at e0 e1 e2 e3 e4 e5;refine bodyPost_ret (v:=.tuple #[.agg #[.int .i64 0,.slice none 0 0,.bool false,.int .i64 0,.slice none 0 0,.bool false],.bool false]) (by simp [results,Tryz.results67,go_sem,e0,e1,e2,e3,e4,e5]) rfl ?_;exact xN.no HP.out ⟨_,_,_,_,_,_,_,_,_,_,rfl⟩ (yp (x:=0) (A:=none) (k:=0) (c:=0) (s:=false) (y:=0) (B:=none) (k' :=0) (c' :=0) (t:=false) HWR.out (Nat.le_refl _))
           | false=>
             cases zc1:(b.toList == [49]) with
             | true=>
               have HP:=ze (Zl HI.out.symm (.inr (.inr (.inl (by have:=HB.out;rw [if_pos rfl] at this;rw [<- this];exact of_decide_eq_true (zc.symm.trans zc1))))));clear za zb zc;go_wp2_with fail;refine (hpb _).mono ?_;rintro e w2 ⟨rfl,rfl⟩;go_wp2_with fail;have kR2:=yu (x:=0) (A:=none) (k:=0) (c:=0) (s:=false) (y:=0) (B:=none) (k' :=0) (c' :=0) (t:=false) HKR.out;have e0:=kR2.cell 0;have e1:=kR2.cell 1;have e2:=kR2.cell 2;have e3:=kR2.cell 3;have e4:=kR2.cell 4;have e5:=kR2.cell 5;simp only [World.rat] at e0 e1 e2 e3 e4 e5;simp at e0 e1 e2 e3 e4 e5;refine bodyPost_ret (v:=.tuple #[.agg #[.int .i64 0,.slice none 0 0,.bool false,.int .i64 0,.slice none 0 0,.bool false],.bool false]) (by simp [results,Tryz.results67,go_sem,e0,e1,e2,e3,e4,e5]) rfl ?_;exact xN.no HP.out ⟨_,_,_,_,_,_,_,_,_,_,rfl⟩ (yp (x:=0) (A:=none) (k:=0) (c:=0) (s:=false) (y:=0) (B:=none) (k' :=0) (c' :=0) (t:=false) HWR.out (Nat.le_refl _))
             | false=>
               have HP:=ze (Zl HI.out.symm (.inr (.inr (.inr (of_decide_eq_true (by rw [<- za];exact za1))))));clear za zb zc;go_wp2_with fail;refine (hpb _).mono ?_;rintro e w2 ⟨rfl,rfl⟩;go_wp2_with fail;have kR2:=yu (x:=0) (A:=none) (k:=0) (c:=0) (s:=false) (y:=0) (B:=none) (k' :=0) (c' :=0) (t:=false) HKR.out;have e0:=kR2.cell 0;have e1:=kR2.cell 1;have e2:=kR2.cell 2;have e3:=kR2.cell 3;have e4:=kR2.cell 4;have e5:=kR2.cell 5;simp only [World.rat] at e0 e1 e2 e3 e4 e5;simp at e0 e1 e2 e3 e4 e5;refine bodyPost_ret (v:=.tuple #[.agg #[.int .i64 0,.slice none 0 0,.bool false,.int .i64 0,.slice none 0 0,.bool false],.bool false]) (by simp [results,Tryz.results67,go_sem,e0,e1,e2,e3,e4,e5]) rfl ?_;exact xN.no HP.out ⟨_,_,_,_,_,_,_,_,_,_,rfl⟩ (yp (x:=0) (A:=none) (k:=0) (c:=0) (s:=false) (y:=0) (B:=none) (k' :=0) (c' :=0) (t:=false) HWR.out (Nat.le_refl _))
     | false=>
       cases is_ with
       | false=>
         have HP:=ze (Vh HPL.out (fun h=>by rw [<- HN.out] at h;cases h) HI.out.symm);have HC:=ze (ZM HPL.out);rw [<- HN.out] at HP;have HAS:=ze (show a.size<=50000 by rw [<- zo,HA.out];exact HC.out.2);clear za zb zc hpb;go_wp2_with fail;refine (ZI a _ (by rw [HA.out];exact HC.out.1) HAS.out).mono ?_;rintro e w2 ⟨v,rfl,hv,hb2⟩;rw [HA.out] at hv;have HV:=ze hv;have HKR2:=ze (HKR.out.below hb2 lR);have HWR2:=ze (ext HWR.out hb2);clear hv hb2 r0 r1 r2 r3 r4 r5 f0 f1 f2 f3 f4 f5;go_wp2_with fail;refine (yi false v _ w2 HV.out).mono ?_;rintro e w3 ⟨v3,rfl,hv3,hb3⟩;obtain ⟨x',A',k',c',ng',rfl,_,_,_⟩:=hv3.form;have hb4:=zf w3 (.cells #[.int .i64 x',.slice A' k' c',.bool ng'] 91);have HV3:=ze (hv3.below hb4);have kR3:=(HKR2.out.below hb3 HKR2.out.lt).below hb4 (HKR2.out.below hb3 HKR2.out.lt).lt;have HWR3:=ze (ext (ext HWR2.out hb3) hb4);have HKR3:=ze kR3;have r0:=kR3.cell 0;have r1:=kR3.cell 1;have r2:=kR3.cell 2;have r3:=kR3.cell 3;have r4:=kR3.cell 4;have r5:=kR3.cell 5;have f0:=kR3.frozen 0;have f1:=kR3.frozen 1;have f2:=kR3.frozen 2;have f3:=kR3.frozen 3;have f4:=kR3.frozen 4
         have f5:=kR3.frozen 5;simp at r0 r1 r2 r3 r4 r5;have kX:=Blk.new w3 91 #[.int .i64 x',.slice A' k' c',.bool ng'];have g0:=kX.cell 0;have g1:=kX.cell 1;have g2:=kX.cell 2;simp at g0 g1 g2;clear hb3 hv3 hb4 kR3 kX lR;go_wp2_with fail;have kR4:=yu (x:=x') (A:=A') (k:=k') (c:=c') (s:=ng') (y:=1) (B:=none) (k' :=0) (c' :=0) (t:=false) HKR3.out;have e0:=kR4.cell 0;have e1:=kR4.cell 1;have e2:=kR4.cell 2;have e3:=kR4.cell 3;have e4:=kR4.cell 4;have e5:=kR4.cell 5;simp only [World.rat] at e0 e1 e2 e3 e4 e5;simp at e0 e1 e2 e3 e4 e5;refine bodyPost_ret (v:=.tuple #[.agg #[.int .i64 x',.slice A' k' c',.bool ng',.int .i64 1,.slice none 0 0,.bool false],.bool true]) (by simp [results,Tryz.results67,go_sem,e0,e1,e2,e3,e4,e5]) rfl ?_;refine xN.yes HP.out ⟨_,_,_,_,_,_,_,_,_,_,rfl,?_,?_⟩ (yp HWR3.out (Nat.le_refl _))
         . rw [(Yj _ _).1]
           exact yI HV3.out HKR3.out
         . rw [(Yj _ _).2]
           exact zfv _
       | true=>
         cases hpb2:yf (bts b) with
         | false=>
           have HP:=ze (Zl HI.out.symm (.inl (by have:=HB.out;rw [if_pos rfl] at this;rw [<- this];exact hpb2)));rw [hpb2] at hpb;clear hpb2 za zb zc;go_wp2_with fail;refine (hpb _).mono ?_;rintro e w2 ⟨rfl,rfl⟩;go_wp2_with fail;have kR2:=yu (x:=0) (A:=none) (k:=0) (c:=0) (s:=false) (y:=0) (B:=none) (k' :=0) (c' :=0) (t:=false) HKR.out;have e0:=kR2.cell 0;have e1:=kR2.cell 1;have e2:=kR2.cell 2;have e3:=kR2.cell 3;have e4:=kR2.cell 4;have e5:=kR2.cell 5;simp only [World.rat] at e0 e1 e2 e3 e4 e5;simp at e0 e1 e2 e3 e4 e5;refine bodyPost_ret (v:=.tuple #[.agg #[.int .i64 0,.slice none 0 0,.bool false,.int .i64 0,.slice none 0 0,.bool false],.bool false]) (by simp [results,Tryz.results67,go_sem,e0,e1,e2,e3,e4,e5]) rfl ?_;exact xN.no HP.out ⟨_,_,_,_,_,_,_,_,_,_,rfl⟩ (yp (x:=0) (A:=none) (k:=0) (c:=0) (s:=false) (y:=0) (B:=none) (k' :=0) (c' :=0) (t:=false) HWR.out (Nat.le_refl _))
         | true=>
           have HPB:=ze hpb2;rw [hpb2] at hpb;clear hpb2
           cases zb1:(b.toList == [48]) with
           | true=>
             have HP:=ze (Zl HI.out.symm (.inr (.inl (by have:=HB.out;rw [if_pos rfl] at this;rw [<- this];exact of_decide_eq_true (zb.symm.trans zb1)))));clear za zb zc;go_wp2_with fail;refine (hpb _).mono ?_;rintro e w2 ⟨rfl,rfl⟩;go_wp2_with fail;have kR2:=yu (x:=0) (A:=none) (k:=0) (c:=0) (s:=false) (y:=0) (B:=none) (k' :=0) (c' :=0) (t:=false) HKR.out;have e0:=kR2.cell 0;have e1:=kR2.cell 1;have e2:=kR2.cell 2;have e3:=kR2.cell 3;have e4:=kR2.cell 4;have e5:=kR2.cell 5;simp only [World.rat] at e0 e1 e2 e3 e4 e5;simp at e0 e1 e2 e3 e4 e5;refine bodyPost_ret (v:=.tuple #[.agg #[.int .i64 0,.slice none 0 0,.bool false,.int .i64 0,.slice none 0 0,.bool false],.bool false]) (by simp [results,Tryz.results67,go_sem,e0,e1,e2,e3,e4,e5]) rfl ?_;exact xN.no HP.out ⟨_,_,_,_,_,_,_,_,_,_,rfl⟩ (yp (x:=0) (A:=none) (k:=0) (c:=0) (s:=false) (y:=0) (B:=none) (k' :=0) (c' :=0) (t:=false) HWR.out (Nat.le_refl _))
           | false=>
             cases zc1:(b.toList == [49]) with
             | true=>
               have HP:=ze (Zl HI.out.symm (.inr (.inr (.inl (by have:=HB.out;rw [if_pos rfl] at this;rw [<- this];exact of_decide_eq_true (zc.symm.trans zc1))))));clear za zb zc;go_wp2_with fail;refine (hpb _).mono ?_;rintro e w2 ⟨rfl,rfl⟩;go_wp2_with fail;have kR2:=yu (x:=0) (A:=none) (k:=0) (c:=0) (s:=false) (y:=0) (B:=none) (k' :=0) (c' :=0) (t:=false) HKR.out;have e0:=kR2.cell 0;have e1:=kR2.cell 1;have e2:=kR2.cell 2;have e3:=kR2.cell 3;have e4:=kR2.cell 4;have e5:=kR2.cell 5;simp only [World.rat] at e0 e1 e2 e3 e4 e5;simp at e0 e1 e2 e3 e4 e5;refine bodyPost_ret (v:=.tuple #[.agg #[.int .i64 0,.slice none 0 0,.bool false,.int .i64 0,.slice none 0 0,.bool false],.bool false]) (by simp [results,Tryz.results67,go_sem,e0,e1,e2,e3,e4,e5]) rfl ?_;exact xN.no HP.out ⟨_,_,_,_,_,_,_,_,_,_,rfl⟩ (yp (x:=0) (A:=none) (k:=0) (c:=0) (s:=false) (y:=0) (B:=none) (k' :=0) (c' :=0) (t:=false) HWR.out (Nat.le_refl _))
             | false=>
               have HBB:=ze (show bts b=ym 47 (zq (bts s)) by rw [HB.out];rfl);have HD:=ze (ZM HPB.out);have HP:=ze (zec HPL.out (fun h=>by rw [<- HN.out] at h;cases h) HI.out.symm (by rw [<- HBB.out];exact HPB.out) (fun h=>by have:=zb.symm.trans zb1;rw [decide_eq_true (HBB.out.trans h)] at this;cases this) (fun h=>by have:=zc.symm.trans zc1;rw [decide_eq_true (HBB.out.trans h)] at this;cases this));have HNZ:=ze (XB (l:=ym 47 (zq (bts s))) (by rw [<- HBB.out];exact HPB.out) (fun h=>by have:=zb.symm.trans zb1;rw [decide_eq_true (HBB.out.trans h)] at this;cases this));have HLD:=ze (XR (l:=ym 47 (zq (bts s))) (by rw [<- HBB.out];exact HPB.out));have HLN:=ze (XR HPL.out);have HC:=ze (ZM HPL.out);rw [<- HN.out] at HP;have HAS:=ze (show a.size<=50000 by rw [<- zo,HA.out];exact HC.out.2);have HBS:=ze (show b.size<=50000 by rw [<- zo];exact HD.out.2);clear za zb zc;go_wp2_with fail;refine (hpb _).mono ?_;rintro e w2 ⟨rfl,rfl⟩;clear hpb;obtain ⟨dn,hdn⟩:∃ dn,dn=zC (ym 47 (zq (bts s))):=⟨_,rfl⟩;obtain ⟨nn,hnn⟩:∃ nn,nn=zC (ahead 47 (zq (bts s))):=⟨_,rfl⟩;rw [<- hdn, <- hnn] at HP
               rw [<- hdn] at HNZ HLD;rw [<- hnn] at HLN;have HDN:=ze hdn;have HNN:=ze hnn;clear hdn hnn;go_wp2_with fail;refine (ZI a _ (by rw [HA.out];exact HC.out.1) HAS.out).mono ?_;rintro e w2 ⟨v,rfl,hv,hb2⟩;rw [HA.out, <- HNN.out] at hv;have HV:=ze hv;have HKR2:=ze (HKR.out.below hb2 lR);have HWR2:=ze (ext HWR.out hb2);clear hv hb2 r0 r1 r2 r3 r4 r5 f0 f1 f2 f3 f4 f5;go_wp2_with fail;refine (yi false v _ w2 HV.out).mono ?_;rintro e w3 ⟨v3,rfl,hv3,hb3⟩;obtain ⟨x',A',k',c',ng',rfl,_,_,_⟩:=hv3.form;have hb4:=zf w3 (.cells #[.int .i64 x',.slice A' k' c',.bool ng'] 91);have HV3:=ze (hv3.below hb4);have kR3:=(HKR2.out.below hb3 HKR2.out.lt).below hb4 (HKR2.out.below hb3 HKR2.out.lt).lt;have HWR3:=ze (ext (ext HWR2.out hb3) hb4);have HKR3:=ze kR3;have kX:=Blk.new w3 91 #[.int .i64 x',.slice A' k' c',.bool ng'];have HKX:=ze kX;have lgx:w.heap.size<w3.heap.size:=(HKR2.out.below hb3 HKR2.out.lt).lt;clear hb3 hv3 hb4 kR3 kX lR;go_wp2_with fail;generalize hgx:w3.heap.size=gx at HKX lgx |-;generalize w3.alloc (.cells #[.int .i64 x',.slice A' k' c',.bool ng'] 91)=W3 at HV3 HKR3 HWR3 HKX |-
               clear hgx;refine (ZI b _ HD.out.1 HBS.out).mono ?_;rintro e w4 ⟨v4,rfl,hv4,hb4⟩;rw [HBB.out, <- HDN.out] at hv4;have HV4:=ze hv4;have HV3a:=ze (HV3.out.below hb4);have HKR4:=ze (HKR3.out.below hb4 HKR3.out.lt);have HKX4:=ze (HKX.out.below hb4 HKX.out.lt);have HWR4:=ze (ext HWR3.out hb4);clear hv4 hb4;go_wp2_with fail;refine (yi false v4 _ w4 HV4.out).mono ?_;rintro e w5 ⟨v5,rfl,hv5,hb5⟩;obtain ⟨y',B',m',d',nh',rfl,_,_,_⟩:=hv5.form;have hb6:=zf w5 (.cells #[.int .i64 y',.slice B' m' d',.bool nh'] 91);have hbb:=ext hb5 hb6;have HV5:=ze (hv5.below hb6);have HV3b:=ze (HV3a.out.below hbb);have HKR5:=ze (HKR4.out.below hbb HKR4.out.lt);have HKX5:=ze (HKX4.out.below hbb HKX4.out.lt);have HWR5:=ze (ext HWR4.out hbb);have HKY5:=ze (Blk.new w5 91 #[.int .i64 y',.slice B' m' d',.bool nh']);have lgy:w.heap.size<w5.heap.size:=(HKR4.out.below hb5 HKR4.out.lt).lt;have x0:=HKX5.out.cell 0;have x1:=HKX5.out.cell 1;have x2:=HKX5.out.cell 2;simp at x0 x1 x2;clear hb5 hb6 hbb hv5;go_wp2_with fail;generalize hgy:w5.heap.size=gy at HKY5 lgy |-
               generalize w5.alloc (.cells #[.int .i64 y',.slice B' m' d',.bool nh'] 91)=W5 at HV5 HV3b HKR5 HKX5 HWR5 HKY5 x0 x1 x2 |-;clear hgy;refine (ZZ _ _ (signed false nn) (signed false dn) _ HV3b.out HV5.out (by have:=HNZ.out;unfold signed;simp;omega) (Nat.le_trans (xZ HLN.out) (by omega)) (Nat.le_trans (xZ HLD.out) (by omega))).mono ?_;rintro e w6 ⟨v6,rfl,hq,hb7⟩;rw [ZQ] at hq;obtain ⟨q,hqq⟩:∃ q,q=x9 false nn dn:=⟨_,rfl⟩;rw [<- hqq] at hq HP;obtain ⟨x5,A5,k5,c5,n5,x6,A6,k6,c6,n6,rfl,hq1,hq2⟩:=hq;have hb8:=zf w6 (.cells #[.int .i64 x5,.slice A5 k5 c5,.bool n5,.int .i64 x6,.slice A6 k6 c6,.bool n6] 93);have hbb:=ext hb7 hb8;have HQ1:=ze (hq1.below hb8);have HQ2:=ze (hq2.below hb8);have HV7:=ze (HV5.out.below hbb);have HKR7:=ze (show Xw _ w.heap.size from ⟨_,_,_,_,_,_,_,_,_,_,HKR5.out.below hbb HKR5.out.lt⟩);have HKY7:=ze (HKY5.out.below hbb HKY5.out.lt);have HWR7:=ze (ext HWR5.out hbb);have HKQ:=ze (Blk.new w6 93 #[.int .i64 x5,.slice A5 k5 c5,.bool n5,.int .i64 x6,.slice A6 k6 c6,.bool n6]);have lgq:w.heap.size<w6.heap.size:=(HKR5.out.below hb7 HKR5.out.lt).lt
               have HLQ:=ze (show len 4294967296 (q.den:Int).natAbs<=67108864 by
                rw [hqq, <- ZQ];have h9:=Xa (zn:=signed false nn) (zd:=signed false dn) (by have:=HNZ.out;unfold signed;simp;omega) (Nat.le_trans (xZ HLD.out) (by omega));rw [h9.2.1]
                refine Nat.le_trans (xS (by omega) (Int.natAbs_tdiv_le_natAbs _ _)) (Nat.le_trans (xZ HLD.out) (by omega)))
               clear hb7 hb8 hbb hq1 hq2 x0 x1 x2 HKX HKX4 HKX5 HKR3 HKR4 HKR5 HKY5 HV3 HV3a HV3b HV5 HWR HWR2 HWR3 HWR4 HWR5 HKR HKR2 hqq;go_wp2_with fail;generalize hgq:w6.heap.size=gq at HKQ lgq |-;generalize w6.alloc (.cells #[.int .i64 x5,.slice A5 k5 c5,.bool n5,.int .i64 x6,.slice A6 k6 c6,.bool n6] 93)=W7 at HQ1 HQ2 HV7 HKR7 HKY7 HWR7 HKQ |-;clear hgq;have hlq:=HKQ.out.lt;have hly:=HKY7.out.lt;have q0:=HKQ.out.cell 0;have q1:=HKQ.out.cell 1;have q2:=HKQ.out.cell 2;have q3:=HKQ.out.cell 3;have q4:=HKQ.out.cell 4;have q5:=HKQ.out.cell 5;have y0:=HKY7.out.cell 0;have y1:=HKY7.out.cell 1;have y2:=HKY7.out.cell 2;simp at q0 q1 q2 q3 q4 q5 y0 y1 y2;have HRES:=ze (show Xw W7.drew w.heap.size from HKR7.out);have HWX:=ze (show Below w.heap.size w W7.drew from zl HWR7.out 1);have HY1:=ze (show zR W7.drew _ q.num from HQ1.out.below (zw W7 1));have HY2:=ze (show zR W7.drew _ (q.den:Int) from HQ2.out.below (zw W7 1));have HY3:=ze (show zR W7.drew _ (signed false dn) from HV7.out.below (zw W7 1));clear HQ1 HQ2 HV7
               go_region_held3 (fun w' =>w'.cell? ⟨gq,0,none⟩=some (.int .i64 x5)/\w'.cell? ⟨gq,1,none⟩=some (.slice A5 k5 c5)/\w'.cell? ⟨gq,2,none⟩=some (.bool n5)/\w'.cell? ⟨gq,3,none⟩=some (.int .i64 x6)/\w'.cell? ⟨gq,4,none⟩=some (.slice A6 k6 c6)/\w'.cell? ⟨gq,5,none⟩=some (.bool n6)/\
                w'.cell? ⟨gy,0,none⟩=some (.int .i64 y')/\w'.cell? ⟨gy,1,none⟩=some (.slice B' m' d')/\w'.cell? ⟨gy,2,none⟩=some (.bool nh')/\gq<w'.heap.size/\gy<w'.heap.size/\Hid (Xw w' w.heap.size)/\Hid (Below w.heap.size w w')/\Hid (zR w' (.agg #[.int .i64 x5,.slice A5 k5 c5,.bool n5]) q.num)/\Hid (zR w' (.agg #[.int .i64 x6,.slice A6 k6 c6,.bool n6]) (q.den:Int))/\Hid (zR w' (.agg #[.int .i64 y',.slice B' m' d',.bool nh']) (signed false dn)))
                (first
                  | with_reducible exact ⟨by go_keep,by go_keep,by go_keep,by go_keep,by go_keep,by go_keep,by go_keep,by go_keep,by go_keep,by first | (simp;done) | (simp;assumption),by first | (simp;done) | (simp;assumption),HRES,HWX,HY1,HY2,HY3⟩
                  | (go_split_ands;with_reducible exact ⟨zP (by omega) ‹_›,zP (by omega) ‹_›,zP (by omega) ‹_›,zP (by omega) ‹_›,zP (by omega) ‹_›,zP (by omega) ‹_›,zP (by omega) ‹_›,zP (by omega) ‹_›,zP (by omega) ‹_›,ZR ‹_›,ZR ‹_›,Y3 ‹_›,Z3 (by omega) ‹_›,Zj ‹_› ‹_›,Zj ‹_› ‹_›,Zj ‹_› ‹_›⟩)
                  | (go_split_ands;with_reducible exact ⟨zj ‹_› ‹_› ‹_›,zj ‹_› ‹_› ‹_›,zj ‹_› ‹_› ‹_›,zj ‹_› ‹_› ‹_›,zj ‹_› ‹_› ‹_›,zj ‹_› ‹_› ‹_›,zj ‹_› ‹_› ‹_›,zj ‹_› ‹_› ‹_›,zj ‹_› ‹_› ‹_›,zE ‹_› ‹_›,zE ‹_› ‹_›,YG ‹_› ‹_›,zt ‹_› ‹_›,Vx ‹_› ‹_›,Vx ‹_› ‹_›,Vx ‹_› ‹_›⟩)
                  | go_keep)
                (first
                  | (go_at_call 129;refine (zco _ _ (q.den:Int) (signed false dn) _ (zI (by go_split_ands;assumption)) (zI (by go_split_ands;assumption)) HLQ.out (Nat.le_trans (xZ HLD.out) (by omega))).mono ?_;rintro e wo ⟨rfl,hbo⟩;obtain ⟨xr,Ar,kr,cr,sr,yr,Br,krx,crx,tr,kR⟩:=(YG (g:=w.heap.size) hbo (by go_split_ands;assumption)).out;have r0:=kR.cell 0;have r1:=kR.cell 1;have r2:=kR.cell 2;have r3:=kR.cell 3;have r4:=kR.cell 4;have r5:=kR.cell 5;have f0:=kR.frozen 0;have f1:=kR.frozen 1;have f2:=kR.frozen 2;have f3:=kR.frozen 3;have f4:=kR.frozen 4;have f5:=kR.frozen 5;simp at r0 r1 r2 r3 r4 r5;have HKR:=ze kR;clear kR))
               all_goals
                go_split_ands;have kR2:=yu (x:=x5) (A:=A5) (k:=k5) (c:=c5) (s:=n5) (y:=x6) (B:=A6) (k' :=k6) (c' :=c6) (t:=n6) HKR.out;have hR1:=zI (by assumption:Hid (zR (World.rat wo w.heap.size x5 A5 k5 c5 n5 x6 A6 k6 c6 n6) (.agg #[.int .i64 x5,.slice A5 k5 c5,.bool n5]) q.num));have hR2:=zI (by assumption:Hid (zR (World.rat wo w.heap.size x5 A5 k5 c5 n5 x6 A6 k6 c6 n6) (.agg #[.int .i64 x6,.slice A6 k6 c6,.bool n6]) (q.den:Int)));have hRW:=zI (by assumption:Hid (Below w.heap.size w (World.rat wo w.heap.size x5 A5 k5 c5 n5 x6 A6 k6 c6 n6)));have e0:=kR2.cell 0;have e1:=kR2.cell 1;have e2:=kR2.cell 2;have e3:=kR2.cell 3;have e4:=kR2.cell 4;have e5:=kR2.cell 5;simp only [World.rat] at e0 e1 e2 e3 e4 e5;simp at e0 e1 e2 e3 e4 e5;go_wp2;refine bodyPost_ret (v:=.tuple #[.agg #[.int .i64 x5,.slice A5 k5 c5,.bool n5,.int .i64 x6,.slice A6 k6 c6,.bool n6],.bool (zK (q.den:Int) (signed false dn) == 0)]) (by simp [results,Tryz.results67,go_sem,e0,e1,e2,e3,e4,e5]) rfl ?_;exact xN.maybe HP.out ⟨_,_,_,_,_,_,_,_,_,_,rfl,hR1,hR2⟩ hRW
   | true=>
     cases za1:(a.toList == [48]) with
     | true=>
       have HP:=ze (zon HN.out.symm (of_decide_eq_true (by rw [<- za];exact za1)));clear za zb zc hpb;go_wp2_with fail;have kR2:=yu (x:=0) (A:=none) (k:=0) (c:=0) (s:=false) (y:=0) (B:=none) (k' :=0) (c' :=0) (t:=false) HKR.out;have e0:=kR2.cell 0;have e1:=kR2.cell 1;have e2:=kR2.cell 2;have e3:=kR2.cell 3;have e4:=kR2.cell 4;have e5:=kR2.cell 5;simp only [World.rat] at e0 e1 e2 e3 e4 e5;simp at e0 e1 e2 e3 e4 e5;refine bodyPost_ret (v:=.tuple #[.agg #[.int .i64 0,.slice none 0 0,.bool false,.int .i64 0,.slice none 0 0,.bool false],.bool false]) (by simp [results,Tryz.results67,go_sem,e0,e1,e2,e3,e4,e5]) rfl ?_;exact xN.no HP.out ⟨_,_,_,_,_,_,_,_,_,_,rfl⟩ (yp (x:=0) (A:=none) (k:=0) (c:=0) (s:=false) (y:=0) (B:=none) (k' :=0) (c' :=0) (t:=false) HWR.out (Nat.le_refl _))
     | false=>
       cases is_ with
       | false=>
         have HP:=ze (Vh HPL.out (fun _ h=>by have:=za.symm.trans za1;rw [decide_eq_true h] at this;cases this) HI.out.symm);have HC:=ze (ZM HPL.out);rw [<- HN.out] at HP;have HAS:=ze (show a.size<=50000 by rw [<- zo,HA.out];exact HC.out.2);clear za zb zc hpb;go_wp2_with fail;refine (ZI a _ (by rw [HA.out];exact HC.out.1) HAS.out).mono ?_;rintro e w2 ⟨v,rfl,hv,hb2⟩;rw [HA.out] at hv;have HV:=ze hv;have HKR2:=ze (HKR.out.below hb2 lR);have HWR2:=ze (ext HWR.out hb2);clear hv hb2 r0 r1 r2 r3 r4 r5 f0 f1 f2 f3 f4 f5;go_wp2_with fail;refine (yi true v _ w2 HV.out).mono ?_;rintro e w3 ⟨v3,rfl,hv3,hb3⟩;obtain ⟨x',A',k',c',ng',rfl,_,_,_⟩:=hv3.form;have hb4:=zf w3 (.cells #[.int .i64 x',.slice A' k' c',.bool ng'] 91);have HV3:=ze (hv3.below hb4);have kR3:=(HKR2.out.below hb3 HKR2.out.lt).below hb4 (HKR2.out.below hb3 HKR2.out.lt).lt;have HWR3:=ze (ext (ext HWR2.out hb3) hb4);have HKR3:=ze kR3;have r0:=kR3.cell 0;have r1:=kR3.cell 1;have r2:=kR3.cell 2;have r3:=kR3.cell 3;have r4:=kR3.cell 4;have r5:=kR3.cell 5;have f0:=kR3.frozen 0;have f1:=kR3.frozen 1;have f2:=kR3.frozen 2
         have f3:=kR3.frozen 3;have f4:=kR3.frozen 4;have f5:=kR3.frozen 5;simp at r0 r1 r2 r3 r4 r5;have kX:=Blk.new w3 91 #[.int .i64 x',.slice A' k' c',.bool ng'];have g0:=kX.cell 0;have g1:=kX.cell 1;have g2:=kX.cell 2;simp at g0 g1 g2;clear hb3 hv3 hb4 kR3 kX lR;go_wp2_with fail;have kR4:=yu (x:=x') (A:=A') (k:=k') (c:=c') (s:=ng') (y:=1) (B:=none) (k' :=0) (c' :=0) (t:=false) HKR3.out;have e0:=kR4.cell 0;have e1:=kR4.cell 1;have e2:=kR4.cell 2;have e3:=kR4.cell 3;have e4:=kR4.cell 4;have e5:=kR4.cell 5;simp only [World.rat] at e0 e1 e2 e3 e4 e5;simp at e0 e1 e2 e3 e4 e5;refine bodyPost_ret (v:=.tuple #[.agg #[.int .i64 x',.slice A' k' c',.bool ng',.int .i64 1,.slice none 0 0,.bool false],.bool true]) (by simp [results,Tryz.results67,go_sem,e0,e1,e2,e3,e4,e5]) rfl ?_;refine xN.yes HP.out ⟨_,_,_,_,_,_,_,_,_,_,rfl,?_,?_⟩ (yp HWR3.out (Nat.le_refl _))
         . rw [(Yj _ _).1]
           exact yI HV3.out HKR3.out
         . rw [(Yj _ _).2]
           exact zfv _
       | true=>
         cases hpb2:yf (bts b) with
         | false=>
           have HP:=ze (Zl HI.out.symm (.inl (by have:=HB.out;rw [if_pos rfl] at this;rw [<- this];exact hpb2)));rw [hpb2] at hpb;clear hpb2 za zb zc;go_wp2_with fail;refine (hpb _).mono ?_;rintro e w2 ⟨rfl,rfl⟩;go_wp2_with fail;have kR2:=yu (x:=0) (A:=none) (k:=0) (c:=0) (s:=false) (y:=0) (B:=none) (k' :=0) (c' :=0) (t:=false) HKR.out;have e0:=kR2.cell 0;have e1:=kR2.cell 1;have e2:=kR2.cell 2;have e3:=kR2.cell 3;have e4:=kR2.cell 4;have e5:=kR2.cell 5;simp only [World.rat] at e0 e1 e2 e3 e4 e5;simp at e0 e1 e2 e3 e4 e5;refine bodyPost_ret (v:=.tuple #[.agg #[.int .i64 0,.slice none 0 0,.bool false,.int .i64 0,.slice none 0 0,.bool false],.bool false]) (by simp [results,Tryz.results67,go_sem,e0,e1,e2,e3,e4,e5]) rfl ?_;exact xN.no HP.out ⟨_,_,_,_,_,_,_,_,_,_,rfl⟩ (yp (x:=0) (A:=none) (k:=0) (c:=0) (s:=false) (y:=0) (B:=none) (k' :=0) (c' :=0) (t:=false) HWR.out (Nat.le_refl _))
         | true=>
           have HPB:=ze hpb2;rw [hpb2] at hpb;clear hpb2
           cases zb1:(b.toList == [48]) with
           | true=>
             have HP:=ze (Zl HI.out.symm (.inr (.inl (by have:=HB.out;rw [if_pos rfl] at this;rw [<- this];exact of_decide_eq_true (zb.symm.trans zb1)))));clear za zb zc;go_wp2_with fail;refine (hpb _).mono ?_;rintro e w2 ⟨rfl,rfl⟩;go_wp2_with fail;have kR2:=yu (x:=0) (A:=none) (k:=0) (c:=0) (s:=false) (y:=0) (B:=none) (k' :=0) (c' :=0) (t:=false) HKR.out;have e0:=kR2.cell 0;have e1:=kR2.cell 1;have e2:=kR2.cell 2;have e3:=kR2.cell 3;have e4:=kR2.cell 4;have e5:=kR2.cell 5;simp only [World.rat] at e0 e1 e2 e3 e4 e5;simp at e0 e1 e2 e3 e4 e5;refine bodyPost_ret (v:=.tuple #[.agg #[.int .i64 0,.slice none 0 0,.bool false,.int .i64 0,.slice none 0 0,.bool false],.bool false]) (by simp [results,Tryz.results67,go_sem,e0,e1,e2,e3,e4,e5]) rfl ?_;exact xN.no HP.out ⟨_,_,_,_,_,_,_,_,_,_,rfl⟩ (yp (x:=0) (A:=none) (k:=0) (c:=0) (s:=false) (y:=0) (B:=none) (k' :=0) (c' :=0) (t:=false) HWR.out (Nat.le_refl _))
           | false=>
             cases zc1:(b.toList == [49]) with
             | true=>
               have HP:=ze (Zl HI.out.symm (.inr (.inr (.inl (by have:=HB.out;rw [if_pos rfl] at this;rw [<- this];exact of_decide_eq_true (zc.symm.trans zc1))))));clear za zb zc;go_wp2_with fail;refine (hpb _).mono ?_;rintro e w2 ⟨rfl,rfl⟩;go_wp2_with fail;have kR2:=yu (x:=0) (A:=none) (k:=0) (c:=0) (s:=false) (y:=0) (B:=none) (k' :=0) (c' :=0) (t:=false) HKR.out;have e0:=kR2.cell 0;have e1:=kR2.cell 1;have e2:=kR2.cell 2;have e3:=kR2.cell 3;have e4:=kR2.cell 4;have e5:=kR2.cell 5;simp only [World.rat] at e0 e1 e2 e3 e4 e5;simp at e0 e1 e2 e3 e4 e5;refine bodyPost_ret (v:=.tuple #[.agg #[.int .i64 0,.slice none 0 0,.bool false,.int .i64 0,.slice none 0 0,.bool false],.bool false]) (by simp [results,Tryz.results67,go_sem,e0,e1,e2,e3,e4,e5]) rfl ?_;exact xN.no HP.out ⟨_,_,_,_,_,_,_,_,_,_,rfl⟩ (yp (x:=0) (A:=none) (k:=0) (c:=0) (s:=false) (y:=0) (B:=none) (k' :=0) (c' :=0) (t:=false) HWR.out (Nat.le_refl _))
             | false=>
               have HBB:=ze (show bts b=ym 47 (zq (bts s)) by rw [HB.out];rfl);have HD:=ze (ZM HPB.out);have HP:=ze (zec HPL.out (fun _ h=>by have:=za.symm.trans za1;rw [decide_eq_true h] at this;cases this) HI.out.symm (by rw [<- HBB.out];exact HPB.out) (fun h=>by have:=zb.symm.trans zb1;rw [decide_eq_true (HBB.out.trans h)] at this;cases this) (fun h=>by have:=zc.symm.trans zc1;rw [decide_eq_true (HBB.out.trans h)] at this;cases this));have HNZ:=ze (XB (l:=ym 47 (zq (bts s))) (by rw [<- HBB.out];exact HPB.out) (fun h=>by have:=zb.symm.trans zb1;rw [decide_eq_true (HBB.out.trans h)] at this;cases this));have HLD:=ze (XR (l:=ym 47 (zq (bts s))) (by rw [<- HBB.out];exact HPB.out));have HLN:=ze (XR HPL.out);have HC:=ze (ZM HPL.out);rw [<- HN.out] at HP;have HAS:=ze (show a.size<=50000 by rw [<- zo,HA.out];exact HC.out.2);have HBS:=ze (show b.size<=50000 by rw [<- zo];exact HD.out.2);clear za zb zc;go_wp2_with fail;refine (hpb _).mono ?_;rintro e w2 ⟨rfl,rfl⟩;clear hpb;obtain ⟨dn,hdn⟩:∃ dn,dn=zC (ym 47 (zq (bts s))):=⟨_,rfl⟩
               obtain ⟨nn,hnn⟩:∃ nn,nn=zC (ahead 47 (zq (bts s))):=⟨_,rfl⟩;rw [<- hdn, <- hnn] at HP;rw [<- hdn] at HNZ HLD;rw [<- hnn] at HLN;have HDN:=ze hdn;have HNN:=ze hnn;clear hdn hnn;go_wp2_with fail;refine (ZI a _ (by rw [HA.out];exact HC.out.1) HAS.out).mono ?_;rintro e w2 ⟨v,rfl,hv,hb2⟩;rw [HA.out, <- HNN.out] at hv;have HV:=ze hv;have HKR2:=ze (HKR.out.below hb2 lR);have HWR2:=ze (ext HWR.out hb2);clear hv hb2 r0 r1 r2 r3 r4 r5 f0 f1 f2 f3 f4 f5;go_wp2_with fail;refine (yi true v _ w2 HV.out).mono ?_;rintro e w3 ⟨v3,rfl,hv3,hb3⟩;obtain ⟨x',A',k',c',ng',rfl,_,_,_⟩:=hv3.form;have hb4:=zf w3 (.cells #[.int .i64 x',.slice A' k' c',.bool ng'] 91);have HV3:=ze (hv3.below hb4);have kR3:=(HKR2.out.below hb3 HKR2.out.lt).below hb4 (HKR2.out.below hb3 HKR2.out.lt).lt;have HWR3:=ze (ext (ext HWR2.out hb3) hb4);have HKR3:=ze kR3;have kX:=Blk.new w3 91 #[.int .i64 x',.slice A' k' c',.bool ng'];have HKX:=ze kX;have lgx:w.heap.size<w3.heap.size:=(HKR2.out.below hb3 HKR2.out.lt).lt;clear hb3 hv3 hb4 kR3 kX lR;go_wp2_with fail;generalize hgx:w3.heap.size=gx at HKX lgx |-
               generalize w3.alloc (.cells #[.int .i64 x',.slice A' k' c',.bool ng'] 91)=W3 at HV3 HKR3 HWR3 HKX |-;clear hgx;refine (ZI b _ HD.out.1 HBS.out).mono ?_;rintro e w4 ⟨v4,rfl,hv4,hb4⟩;rw [HBB.out, <- HDN.out] at hv4;have HV4:=ze hv4;have HV3a:=ze (HV3.out.below hb4);have HKR4:=ze (HKR3.out.below hb4 HKR3.out.lt);have HKX4:=ze (HKX.out.below hb4 HKX.out.lt);have HWR4:=ze (ext HWR3.out hb4);clear hv4 hb4;go_wp2_with fail;refine (yi false v4 _ w4 HV4.out).mono ?_;rintro e w5 ⟨v5,rfl,hv5,hb5⟩;obtain ⟨y',B',m',d',nh',rfl,_,_,_⟩:=hv5.form;have hb6:=zf w5 (.cells #[.int .i64 y',.slice B' m' d',.bool nh'] 91);have hbb:=ext hb5 hb6;have HV5:=ze (hv5.below hb6);have HV3b:=ze (HV3a.out.below hbb);have HKR5:=ze (HKR4.out.below hbb HKR4.out.lt);have HKX5:=ze (HKX4.out.below hbb HKX4.out.lt);have HWR5:=ze (ext HWR4.out hbb);have HKY5:=ze (Blk.new w5 91 #[.int .i64 y',.slice B' m' d',.bool nh']);have lgy:w.heap.size<w5.heap.size:=(HKR4.out.below hb5 HKR4.out.lt).lt;have x0:=HKX5.out.cell 0;have x1:=HKX5.out.cell 1;have x2:=HKX5.out.cell 2;simp at x0 x1 x2;clear hb5 hb6 hbb hv5
               go_wp2_with fail;generalize hgy:w5.heap.size=gy at HKY5 lgy |-;generalize w5.alloc (.cells #[.int .i64 y',.slice B' m' d',.bool nh'] 91)=W5 at HV5 HV3b HKR5 HKX5 HWR5 HKY5 x0 x1 x2 |-;clear hgy;refine (ZZ _ _ (signed true nn) (signed false dn) _ HV3b.out HV5.out (by have:=HNZ.out;unfold signed;simp;omega) (Nat.le_trans (xZ HLN.out) (by omega)) (Nat.le_trans (xZ HLD.out) (by omega))).mono ?_;rintro e w6 ⟨v6,rfl,hq,hb7⟩;rw [ZQ] at hq;obtain ⟨q,hqq⟩:∃ q,q=x9 true nn dn:=⟨_,rfl⟩;rw [<- hqq] at hq HP;obtain ⟨x5,A5,k5,c5,n5,x6,A6,k6,c6,n6,rfl,hq1,hq2⟩:=hq;have hb8:=zf w6 (.cells #[.int .i64 x5,.slice A5 k5 c5,.bool n5,.int .i64 x6,.slice A6 k6 c6,.bool n6] 93);have hbb:=ext hb7 hb8;have HQ1:=ze (hq1.below hb8);have HQ2:=ze (hq2.below hb8);have HV7:=ze (HV5.out.below hbb);have HKR7:=ze (show Xw _ w.heap.size from ⟨_,_,_,_,_,_,_,_,_,_,HKR5.out.below hbb HKR5.out.lt⟩);have HKY7:=ze (HKY5.out.below hbb HKY5.out.lt);have HWR7:=ze (ext HWR5.out hbb);have HKQ:=ze (Blk.new w6 93 #[.int .i64 x5,.slice A5 k5 c5,.bool n5,.int .i64 x6,.slice A6 k6 c6,.bool n6])
               have lgq:w.heap.size<w6.heap.size:=(HKR5.out.below hb7 HKR5.out.lt).lt
               have HLQ:=ze (show len 4294967296 (q.den:Int).natAbs<=67108864 by
                rw [hqq, <- ZQ];have h9:=Xa (zn:=signed true nn) (zd:=signed false dn) (by have:=HNZ.out;unfold signed;simp;omega) (Nat.le_trans (xZ HLD.out) (by omega));rw [h9.2.1]
                refine Nat.le_trans (xS (by omega) (Int.natAbs_tdiv_le_natAbs _ _)) (Nat.le_trans (xZ HLD.out) (by omega)))
               clear hb7 hb8 hbb hq1 hq2 x0 x1 x2 HKX HKX4 HKX5 HKR3 HKR4 HKR5 HKY5 HV3 HV3a HV3b HV5 HWR HWR2 HWR3 HWR4 HWR5 HKR HKR2 hqq;go_wp2_with fail;generalize hgq:w6.heap.size=gq at HKQ lgq |-;generalize w6.alloc (.cells #[.int .i64 x5,.slice A5 k5 c5,.bool n5,.int .i64 x6,.slice A6 k6 c6,.bool n6] 93)=W7 at HQ1 HQ2 HV7 HKR7 HKY7 HWR7 HKQ |-;clear hgq;have hlq:=HKQ.out.lt;have hly:=HKY7.out.lt;have q0:=HKQ.out.cell 0;have q1:=HKQ.out.cell 1;have q2:=HKQ.out.cell 2;have q3:=HKQ.out.cell 3;have q4:=HKQ.out.cell 4;have q5:=HKQ.out.cell 5;have y0:=HKY7.out.cell 0;have y1:=HKY7.out.cell 1;have y2:=HKY7.out.cell 2;simp at q0 q1 q2 q3 q4 q5 y0 y1 y2;have HRES:=ze (show Xw W7.drew w.heap.size from HKR7.out);have HWX:=ze (show Below w.heap.size w W7.drew from zl HWR7.out 1);have HY1:=ze (show zR W7.drew _ q.num from HQ1.out.below (zw W7 1));have HY2:=ze (show zR W7.drew _ (q.den:Int) from HQ2.out.below (zw W7 1));have HY3:=ze (show zR W7.drew _ (signed false dn) from HV7.out.below (zw W7 1));clear HQ1 HQ2 HV7
               go_region_held3 (fun w' =>w'.cell? ⟨gq,0,none⟩=some (.int .i64 x5)/\w'.cell? ⟨gq,1,none⟩=some (.slice A5 k5 c5)/\w'.cell? ⟨gq,2,none⟩=some (.bool n5)/\w'.cell? ⟨gq,3,none⟩=some (.int .i64 x6)/\w'.cell? ⟨gq,4,none⟩=some (.slice A6 k6 c6)/\w'.cell? ⟨gq,5,none⟩=some (.bool n6)/\
                w'.cell? ⟨gy,0,none⟩=some (.int .i64 y')/\w'.cell? ⟨gy,1,none⟩=some (.slice B' m' d')/\w'.cell? ⟨gy,2,none⟩=some (.bool nh')/\gq<w'.heap.size/\gy<w'.heap.size/\Hid (Xw w' w.heap.size)/\Hid (Below w.heap.size w w')/\Hid (zR w' (.agg #[.int .i64 x5,.slice A5 k5 c5,.bool n5]) q.num)/\Hid (zR w' (.agg #[.int .i64 x6,.slice A6 k6 c6,.bool n6]) (q.den:Int))/\Hid (zR w' (.agg #[.int .i64 y',.slice B' m' d',.bool nh']) (signed false dn)))
                (first
                  | with_reducible exact ⟨by go_keep,by go_keep,by go_keep,by go_keep,by go_keep,by go_keep,by go_keep,by go_keep,by go_keep,by first | (simp;done) | (simp;assumption),by first | (simp;done) | (simp;assumption),HRES,HWX,HY1,HY2,HY3⟩
                  | (go_split_ands;with_reducible exact ⟨zP (by omega) ‹_›,zP (by omega) ‹_›,zP (by omega) ‹_›,zP (by omega) ‹_›,zP (by omega) ‹_›,zP (by omega) ‹_›,zP (by omega) ‹_›,zP (by omega) ‹_›,zP (by omega) ‹_›,ZR ‹_›,ZR ‹_›,Y3 ‹_›,Z3 (by omega) ‹_›,Zj ‹_› ‹_›,Zj ‹_› ‹_›,Zj ‹_› ‹_›⟩)
                  | (go_split_ands;with_reducible exact ⟨zj ‹_› ‹_› ‹_›,zj ‹_› ‹_› ‹_›,zj ‹_› ‹_› ‹_›,zj ‹_› ‹_› ‹_›,zj ‹_› ‹_› ‹_›,zj ‹_› ‹_› ‹_›,zj ‹_› ‹_› ‹_›,zj ‹_› ‹_› ‹_›,zj ‹_› ‹_› ‹_›,zE ‹_› ‹_›,zE ‹_› ‹_›,YG ‹_› ‹_›,zt ‹_› ‹_›,Vx ‹_› ‹_›,Vx ‹_› ‹_›,Vx ‹_› ‹_›⟩)
                  | go_keep)
                (first
                  | (go_at_call 129;refine (zco _ _ (q.den:Int) (signed false dn) _ (zI (by go_split_ands;assumption)) (zI (by go_split_ands;assumption)) HLQ.out (Nat.le_trans (xZ HLD.out) (by omega))).mono ?_;rintro e wo ⟨rfl,hbo⟩;obtain ⟨xr,Ar,kr,cr,sr,yr,Br,krx,crx,tr,kR⟩:=(YG (g:=w.heap.size) hbo (by go_split_ands;assumption)).out;have r0:=kR.cell 0;have r1:=kR.cell 1;have r2:=kR.cell 2;have r3:=kR.cell 3;have r4:=kR.cell 4;have r5:=kR.cell 5;have f0:=kR.frozen 0;have f1:=kR.frozen 1;have f2:=kR.frozen 2;have f3:=kR.frozen 3;have f4:=kR.frozen 4;have f5:=kR.frozen 5;simp at r0 r1 r2 r3 r4 r5;have HKR:=ze kR;clear kR))
               all_goals
                go_split_ands;have kR2:=yu (x:=x5) (A:=A5) (k:=k5) (c:=c5) (s:=n5) (y:=x6) (B:=A6) (k' :=k6) (c' :=c6) (t:=n6) HKR.out;have hR1:=zI (by assumption:Hid (zR (World.rat wo w.heap.size x5 A5 k5 c5 n5 x6 A6 k6 c6 n6) (.agg #[.int .i64 x5,.slice A5 k5 c5,.bool n5]) q.num));have hR2:=zI (by assumption:Hid (zR (World.rat wo w.heap.size x5 A5 k5 c5 n5 x6 A6 k6 c6 n6) (.agg #[.int .i64 x6,.slice A6 k6 c6,.bool n6]) (q.den:Int)));have hRW:=zI (by assumption:Hid (Below w.heap.size w (World.rat wo w.heap.size x5 A5 k5 c5 n5 x6 A6 k6 c6 n6)));have e0:=kR2.cell 0;have e1:=kR2.cell 1;have e2:=kR2.cell 2;have e3:=kR2.cell 3;have e4:=kR2.cell 4;have e5:=kR2.cell 5;simp only [World.rat] at e0 e1 e2 e3 e4 e5;simp at e0 e1 e2 e3 e4 e5;go_wp2;refine bodyPost_ret (v:=.tuple #[.agg #[.int .i64 x5,.slice A5 k5 c5,.bool n5,.int .i64 x6,.slice A6 k6 c6,.bool n6],.bool (zK (q.den:Int) (signed false dn) == 0)]) (by simp [results,Tryz.results67,go_sem,e0,e1,e2,e3,e4,e5]) rfl ?_;exact xN.maybe HP.out ⟨_,_,_,_,_,_,_,_,_,_,rfl,hR1,hR2⟩ hRW
def zro (w:World) (la lb:List UInt8) (e:Ending) (w' :World):Prop:=
 ∃ v1 v2 b,e= .returned (.tuple #[v1,v2,.bool b])/\zq3 v1/\zq3 v2/\b=((zp la).isSome && (zp lb).isSome)/\(∀ q,zp la=some q->yC w' v1 q)/\(∀ q,zp lb=some q->yC w' v2 q)/\Below w.heap.size w w'
theorem yC.stored {W:World} {g:Nat} {v:Value} {q:Rat} {x y x0 y0:Int} {A B A0 B0:Option Addr} {k c k' c' k0 c0 k1 c1:Nat} {s t s0 t0:Bool} {t' :TypeId} (h:yC W v q)
 (hk:Blk W g t' #[.int .i64 x0,.slice A0 k0 c0,.bool s0,.int .i64 y0,.slice B0 k1 c1,.bool t0]):yC (World.rat W g x A k c s y B k' c' t) v q:=by
 obtain ⟨x5,A5,k5,c5,s5,y5,B5,k6,c6,t5,rfl,h1,h2⟩:=h
 exact ⟨_,_,_,_,_,_,_,_,_,_,rfl,yI h1 hk,yI h2 hk⟩
theorem zqn (a b:ByteArray) (w:World) (ha:a.size<=1073741824) (hb:b.size<=1073741824):
 Calls Tryz.prog 76 #[.string a,.string b] w (zro w (bts a) (bts b)):=by
 have hr1:=fun w=>YP a w ha
 have hr2:=fun w=>YP b w hb
 have kA:=(Blk.new w 93 #[.int .i64 0,.slice none 0 0,.bool false,.int .i64 0,.slice none 0 0,.bool false]).alloc (.cells #[.int .i64 0,.slice none 0 0,.bool false,.int .i64 0,.slice none 0 0,.bool false] 93)
 have kB:=Blk.new (w.alloc (.cells #[.int .i64 0,.slice none 0 0,.bool false,.int .i64 0,.slice none 0 0,.bool false] 93)) 93 #[.int .i64 0,.slice none 0 0,.bool false,.int .i64 0,.slice none 0 0,.bool false]
 have hW:=ext (zf w (.cells #[.int .i64 0,.slice none 0 0,.bool false,.int .i64 0,.slice none 0 0,.bool false] 93)) (zf _ (.cells #[.int .i64 0,.slice none 0 0,.bool false,.int .i64 0,.slice none 0 0,.bool false] 93))
 simp only [World.size_alloc] at kB
 go_enter Tryz.func76,Tryz.ntmps76
 go_wp2_with fail
 generalize (w.alloc (.cells #[.int .i64 0,.slice none 0 0,.bool false,.int .i64 0,.slice none 0 0,.bool false] 93)).alloc (.cells #[.int .i64 0,.slice none 0 0,.bool false,.int .i64 0,.slice none 0 0,.bool false] 93)=W at kA kB hW |-
 refine (hr1 _).mono ?_
 rintro e w1 ⟨v1,b1,rfl,⟨x1,A1,k1,c1,s1,y1,B1,k1x,c1x,t1,rfl⟩,hb1,hq1,hbl1⟩
 have kA1:=kA.below hbl1 kA.lt
 have kB1:=kB.below hbl1 kB.lt
 have a0:=kA1.cell 0
 have a1:=kA1.cell 1
 have a2:=kA1.cell 2
 have a3:=kA1.cell 3
 have a4:=kA1.cell 4
 have a5:=kA1.cell 5
 have f0:=kA1.frozen 0
 have f1:=kA1.frozen 1
 have f2:=kA1.frozen 2
 have f3:=kA1.frozen 3
 have f4:=kA1.frozen 4
 have f5:=kA1.frozen 5
 simp at a0 a1 a2 a3 a4 a5
 have HA1:=ze (yu (x:=x1) (A:=A1) (k:=k1) (c:=c1) (s:=s1) (y:=y1) (B:=B1) (k' :=k1x) (c' :=c1x) (t:=t1) kA1)
 have HB1:=ze (Vz (g' :=w.heap.size) (x:=x1) (A:=A1) (k:=k1) (c:=c1) (s:=s1) (y:=y1) (B:=B1) (k' :=k1x) (c' :=c1x) (t:=t1) kB1 (by omega))
 have HQ1:=ze (show ∀ q,zp (bts a)=some q->yC (World.rat w1 w.heap.size x1 A1 k1 c1 s1 y1 B1 k1x c1x t1) _ q from fun q hq=>(hq1 q hq).stored kA1)
 have HW1:=ze (yp (g:=w.heap.size) (x:=x1) (A:=A1) (k:=k1) (c:=c1) (s:=s1) (y:=y1) (B:=B1) (k' :=k1x) (c' :=c1x) (t:=t1) (ext hW hbl1) (Nat.le_refl _))
 have HE1:=ze hb1
 clear kA kB hW hb1 hq1 hbl1 kA1 kB1 hr1
 simp only [World.rat] at HA1 HB1 HQ1 HW1
 go_wp2_with fail
 generalize (((((w1.setCell { block:=w.heap.size,off:=0 } (.int .i64 x1)).setCell { block:=w.heap.size,off:=1 } (.slice A1 k1 c1)).setCell { block:=w.heap.size,off:=2 } (.bool s1)).setCell { block:=w.heap.size,off:=3 } (.int .i64 y1)).setCell { block:=w.heap.size,off:=4 } (.slice B1 k1x c1x)).setCell { block:=w.heap.size,off:=5 } (.bool t1)=W1 at HA1 HB1 HQ1 HW1 |-
 clear a0 a1 a2 a3 a4 a5 f0 f1 f2 f3 f4 f5
 refine (hr2 _).mono ?_
 rintro e w2 ⟨v2,b2,rfl,⟨x2,A2,k2,c2,s2,y2,B2,k2x,c2x,t2,rfl⟩,hb2,hq2,hbl2⟩
 have kA2:=HA1.out.below hbl2 HA1.out.lt
 have kB2:=HB1.out.below hbl2 HB1.out.lt
 have a0:=kB2.cell 0
 have a1:=kB2.cell 1
 have a2:=kB2.cell 2
 have a3:=kB2.cell 3
 have a4:=kB2.cell 4
 have a5:=kB2.cell 5
 have f0:=kB2.frozen 0
 have f1:=kB2.frozen 1
 have f2:=kB2.frozen 2
 have f3:=kB2.frozen 3
 have f4:=kB2.frozen 4
 have f5:=kB2.frozen 5
 simp at a0 a1 a2 a3 a4 a5
 have HB2:=ze (yu (x:=x2) (A:=A2) (k:=k2) (c:=c2) (s:=s2) (y:=y2) (B:=B2) (k' :=k2x) (c' :=c2x) (t:=t2) kB2)
 have HA2:=ze (Vz (g' :=w.heap.size+1) (x:=x2) (A:=A2) (k:=k2) (c:=c2) (s:=s2) (y:=y2) (B:=B2) (k' :=k2x) (c' :=c2x) (t:=t2) kA2 (by omega))
 have HQ1' :=ze (show ∀ q,zp (bts a)=some q->yC (World.rat w2 (w.heap.size+1) x2 A2 k2 c2 s2 y2 B2 k2x c2x t2) _ q from fun q hq=>((HQ1.out q hq).below hbl2).stored kB2)
 have HQ2:=ze (show ∀ q,zp (bts b)=some q->yC (World.rat w2 (w.heap.size+1) x2 A2 k2 c2 s2 y2 B2 k2x c2x t2) _ q from fun q hq=>(hq2 q hq).stored kB2)
 have HW2:=ze (yp (g:=w.heap.size+1) (x:=x2) (A:=A2) (k:=k2) (c:=c2) (s:=s2) (y:=y2) (B:=B2) (k' :=k2x) (c' :=c2x) (t:=t2) (ext HW1.out hbl2) (by omega))
 have HE2:=ze hb2
 clear hb2 hq2 hbl2 kA2 kB2 hr2 HA1 HB1 HQ1 HW1
 simp only [World.rat] at HA2 HB2 HQ1' HQ2 HW2
 go_wp2_with fail
 generalize (((((w2.setCell { block:=w.heap.size+1,off:=0 } (.int .i64 x2)).setCell { block:=w.heap.size+1,off:=1 } (.slice A2 k2 c2)).setCell { block:=w.heap.size+1,off:=2 } (.bool s2)).setCell { block:=w.heap.size+1,off:=3 } (.int .i64 y2)).setCell { block:=w.heap.size+1,off:=4 } (.slice B2 k2x c2x)).setCell { block:=w.heap.size+1,off:=5 } (.bool t2)=W2 at HA2 HB2 HQ1' HQ2 HW2 |-
 clear a0 a1 a2 a3 a4 a5 f0 f1 f2 f3 f4 f5
 have a0:=HA2.out.cell 0
 have a1:=HA2.out.cell 1
 have a2:=HA2.out.cell 2
 have a3:=HA2.out.cell 3
 have a4:=HA2.out.cell 4
 have a5:=HA2.out.cell 5
 have f0:=HA2.out.frozen 0
 have f1:=HA2.out.frozen 1
 have f2:=HA2.out.frozen 2
 have f3:=HA2.out.frozen 3
 have f4:=HA2.out.frozen 4
 have f5:=HA2.out.frozen 5
 have d0:=HB2.out.cell 0
 have d1:=HB2.out.cell 1
 have d2:=HB2.out.cell 2
 have d3:=HB2.out.cell 3
 have d4:=HB2.out.cell 4
 have d5:=HB2.out.cell 5
 have g0:=HB2.out.frozen 0
 have g1:=HB2.out.frozen 1
 have g2:=HB2.out.frozen 2
 have g3:=HB2.out.frozen 3
 have g4:=HB2.out.frozen 4
 have g5:=HB2.out.frozen 5
 simp at a0 a1 a2 a3 a4 a5 d0 d1 d2 d3 d4 d5
 cases b1 with
 | true=>
   have HR:=ze (show b2=((zp (bts a)).isSome && (zp (bts b)).isSome) by rw [<- HE1.out, <- HE2.out];rfl)
   go_region
   go_wp2;have kA3:=yu (x:=x1) (A:=A1) (k:=k1) (c:=c1) (s:=s1) (y:=y1) (B:=B1) (k' :=k1x) (c' :=c1x) (t:=t1) HA2.out;have kB3:=Vz (g' :=w.heap.size) (x:=x1) (A:=A1) (k:=k1) (c:=c1) (s:=s1) (y:=y1) (B:=B1) (k' :=k1x) (c' :=c1x) (t:=t1) HB2.out (by omega);have kA4:=Vz (g' :=w.heap.size+1) (x:=x2) (A:=A2) (k:=k2) (c:=c2) (s:=s2) (y:=y2) (B:=B2) (k' :=k2x) (c' :=c2x) (t:=t2) kA3 (by omega);have kB4:=yu (x:=x2) (A:=A2) (k:=k2) (c:=c2) (s:=s2) (y:=y2) (B:=B2) (k' :=k2x) (c' :=c2x) (t:=t2) kB3;have e0:=kA4.cell 0;have e1:=kA4.cell 1;have e2:=kA4.cell 2;have e3:=kA4.cell 3;have e4:=kA4.cell 4;have e5:=kA4.cell 5;have h0:=kB4.cell 0;have h1:=kB4.cell 1;have h2:=kB4.cell 2;have h3:=kB4.cell 3;have h4:=kB4.cell 4;have h5:=kB4.cell 5;simp only [World.rat] at e0 e1 e2 e3 e4 e5 h0 h1 h2 h3 h4 h5;simp at e0 e1 e2 e3 e4 e5 h0 h1 h2 h3 h4 h5
   refine bodyPost_ret (v:=.tuple #[.agg #[.int .i64 x1,.slice A1 k1 c1,.bool s1,.int .i64 y1,.slice B1 k1x c1x,.bool t1],.agg #[.int .i64 x2,.slice A2 k2 c2,.bool s2,.int .i64 y2,.slice B2 k2x c2x,.bool t2],.bool b2]) (by simp [results,Tryz.results76,go_sem,e0,e1,e2,e3,e4,e5,h0,h1,h2,h3,h4,h5]) rfl ?_;have hd:=zw (World.rat (World.rat W2 w.heap.size x1 A1 k1 c1 s1 y1 B1 k1x c1x t1) (w.heap.size+1) x2 A2 k2 c2 s2 y2 B2 k2x c2x t2) 1;exact ⟨_,_,_,rfl,⟨_,_,_,_,_,_,_,_,_,_,rfl⟩,⟨_,_,_,_,_,_,_,_,_,_,rfl⟩,HR.out,fun q hq=>(((HQ1'.out q hq).stored HA2.out).stored kB3).below hd,fun q hq=>(((HQ2.out q hq).stored HA2.out).stored kB3).below hd,zl (yp (yp HW2.out (Nat.le_refl _)) (by omega)) 1⟩
 | false=>
   have HR:=ze (show false=((zp (bts a)).isSome && (zp (bts b)).isSome) by rw [<- HE1.out];rfl)
   go_region
   go_wp2;have kA3:=yu (x:=x1) (A:=A1) (k:=k1) (c:=c1) (s:=s1) (y:=y1) (B:=B1) (k' :=k1x) (c' :=c1x) (t:=t1) HA2.out;have kB3:=Vz (g' :=w.heap.size) (x:=x1) (A:=A1) (k:=k1) (c:=c1) (s:=s1) (y:=y1) (B:=B1) (k' :=k1x) (c' :=c1x) (t:=t1) HB2.out (by omega);have kA4:=Vz (g' :=w.heap.size+1) (x:=x2) (A:=A2) (k:=k2) (c:=c2) (s:=s2) (y:=y2) (B:=B2) (k' :=k2x) (c' :=c2x) (t:=t2) kA3 (by omega);have kB4:=yu (x:=x2) (A:=A2) (k:=k2) (c:=c2) (s:=s2) (y:=y2) (B:=B2) (k' :=k2x) (c' :=c2x) (t:=t2) kB3;have e0:=kA4.cell 0;have e1:=kA4.cell 1;have e2:=kA4.cell 2;have e3:=kA4.cell 3;have e4:=kA4.cell 4;have e5:=kA4.cell 5;have h0:=kB4.cell 0;have h1:=kB4.cell 1;have h2:=kB4.cell 2;have h3:=kB4.cell 3;have h4:=kB4.cell 4;have h5:=kB4.cell 5;simp only [World.rat] at e0 e1 e2 e3 e4 e5 h0 h1 h2 h3 h4 h5;simp at e0 e1 e2 e3 e4 e5 h0 h1 h2 h3 h4 h5
   refine bodyPost_ret (v:=.tuple #[.agg #[.int .i64 x1,.slice A1 k1 c1,.bool s1,.int .i64 y1,.slice B1 k1x c1x,.bool t1],.agg #[.int .i64 x2,.slice A2 k2 c2,.bool s2,.int .i64 y2,.slice B2 k2x c2x,.bool t2],.bool false]) (by simp [results,Tryz.results76,go_sem,e0,e1,e2,e3,e4,e5,h0,h1,h2,h3,h4,h5]) rfl ?_;have hd:=zw (World.rat (World.rat W2 w.heap.size x1 A1 k1 c1 s1 y1 B1 k1x c1x t1) (w.heap.size+1) x2 A2 k2 c2 s2 y2 B2 k2x c2x t2) 1;exact ⟨_,_,_,rfl,⟨_,_,_,_,_,_,_,_,_,_,rfl⟩,⟨_,_,_,_,_,_,_,_,_,_,rfl⟩,HR.out,fun q hq=>(((HQ1'.out q hq).stored HA2.out).stored kB3).below hd,fun q hq=>(((HQ2.out q hq).stored HA2.out).stored kB3).below hd,zl (yp (yp HW2.out (Nat.le_refl _)) (by omega)) 1⟩
end Go.Proofs.YtkmcmmcencdcpaaGreatDoor
namespace Go.Proofs.YtkmcmmcencdcpaaGreatDoor
open Go.RowKit Go.Deep
def op2 (f:Rat->Rat->Rat) (la lb:List UInt8):List UInt8×Int:=match zp la,zp lb with
 | some x,some y=>Zn (f x y)
 | _,_=>([],4)
theorem zrc {f:Rat->Rat->Rat} {la lb:List UInt8} (h:((zp la).isSome && (zp lb).isSome)=false):op2 f la lb=([],4):=by
 unfold op2
 cases ha:zp la with
 | none=>rfl
 | some x=>
   cases hb:zp lb with
   | none=>rfl
   | some y=>rw [ha,hb] at h;cases h
theorem zn0 {la lb:List UInt8} (h:((zp la).isSome && (zp lb).isSome)=true):∃ x y,zp la=some x/\zp lb=some y:=by
 cases ha:zp la with
 | none=>rw [ha] at h;cases h
 | some x=>
   cases hb:zp lb with
   | none=>rw [ha,hb] at h;cases h
   | some y=>exact ⟨x,y,rfl,rfl⟩
theorem zqy {f:Rat->Rat->Rat} {la lb:List UInt8} {x y:Rat} (ha:zp la=some x) (hb:zp lb=some y):op2 f la lb=Zn (f x y):=by unfold op2;rw [ha,hb]
theorem zmn {l:List UInt8} {q:Rat} (h:zp l=some q):ZW 50000 q:=(yG.1 h).2.len
theorem ZW.more {M K:Nat} {q:Rat} (h:ZW M q) (hM:M<=K):ZW K q:=⟨Nat.le_trans h.1 hM,Nat.le_trans h.2 hM⟩
theorem ZW.of_dz {e:Nat} {q:Rat} (h:Dz e q):ZW (e+1) q:=(Dz.short h (Nat.lt_succ_self e)).len
theorem zrx {l:List UInt8} {q:Rat} (h:zp l=some q):Dz 50000 q:=(yG.1 h).2.sz
theorem zjs (a b:ByteArray) (w:World) (ha:a.size<=1073741824) (hb:b.size<=1073741824):
 Calls Tryz.prog 72 #[.string a,.string b,.func (.func 77) #[] #[]] w (zoy w (op2 (· + ·) (bts a) (bts b))):=by
 have ht:=fun w=>zqn a b w ha hb
 go_enter Tryz.func72,Tryz.ntmps72
 go_wp2_with fail
 refine (ht _).mono ?_
 rintro e w1 ⟨v1,v2,bb,rfl,⟨x1,A1,k1,c1,s1,y1,B1,k1x,c1x,t1,rfl⟩,⟨x2,A2,k2,c2,s2,y2,B2,k2x,c2x,t2,rfl⟩,hbb,hq1,hq2,hW⟩
 have hb1:=ext (zf w1 (.cells #[.int .i64 x1,.slice A1 k1 c1,.bool s1,.int .i64 y1,.slice B1 k1x c1x,.bool t1] 93)) (zf _ (.cells #[.int .i64 x2,.slice A2 k2 c2,.bool s2,.int .i64 y2,.slice B2 k2x c2x,.bool t2] 93))
 have HQ1:=ze (show ∀ q,zp (bts a)=some q->yC _ _ q from fun q hq=>(hq1 q hq).below hb1)
 have HQ2:=ze (show ∀ q,zp (bts b)=some q->yC _ _ q from fun q hq=>(hq2 q hq).below hb1)
 have HW:=ze (ext hW hb1)
 clear hq1 hq2 hW hb1 ht
 cases bb with
 | false=>
   have HR:=ze (zrc (f:=(· + ·)) hbb.symm);clear hbb;go_wp2_with fail;go_ret2;rw [HR.out];exact ⟨rfl,HW.out⟩
 | true=>
   obtain ⟨x,y,hx,hy⟩:=zn0 hbb.symm;have HR:=ze (zqy (f:=(· + ·)) hx hy);have HX:=ze hx;have HY:=ze hy;clear hbb hx hy;go_wp2_with fail;refine (Xz _ _ x y _ (HQ1.out x HX.out) (HQ2.out y HY.out) ((zmn HX.out).more (by omega)) ((zmn HY.out).more (by omega))).mono ?_;rintro e w2 ⟨v,rfl,hv,hb2⟩;have HL:=ze (show ZW 67108864 ((· + ·) x y) from (ZW.of_dz (e:=100001) (Dz.add (zrx HX.out) (zrx HY.out) (by omega))).more (by omega));have HV:=ze hv;have HW2:=ze (ext HW.out hb2);clear hv hb2;go_wp2_with fail;refine (zie v _ w2 HV.out HL.out).mono ?_;rintro e w3 ⟨rfl,hb3⟩;have HB3:=ze hb3;clear hb3;go_wp2_with fail;go_ret2;rw [HR.out];exact ⟨rfl,ext HW2.out HB3.out⟩
theorem zph (a b:ByteArray) (w:World) (ha:a.size<=1073741824) (hb:b.size<=1073741824):
 Calls Tryz.prog 32 #[.string a,.string b] w (zoy w (op2 (· + ·) (bts a) (bts b))):=by
 have hr:=fun w=>zjs a b w ha hb
 go_enter Tryz.func32,Tryz.ntmps32
 go_wp2_with fail
 refine (hr _).mono ?_
 rintro e w1 ⟨rfl,hb1⟩
 have HB1:=ze hb1
 clear hb1 hr
 go_wp2_with fail
 go_ret2
 exact ⟨rfl,HB1.out⟩
def zoh (w:World) (r:Int×Int) (e:Ending) (w' :World):Prop:=e= .returned (.tuple #[.int .i64 r.1,.int .i64 r.2])/\Below w.heap.size w w'
def txt (q:Rat):ByteArray:=⟨(zT q).toArray⟩
theorem zfl (q:Rat):bts (txt q)=zT q:=yR _
theorem zpd {a:ByteArray} {q:Rat} (h:zp (bts a)=some q):a=txt q:=by
 have h1:=(yG.1 h).1
 have h2:a=⟨(bts a).toArray⟩:=by
  obtain ⟨d⟩:=a
  simp [bts]
 rw [h2,h1];rfl
theorem zhr:(⟨#[48]⟩:ByteArray)=txt 0:=by decide
end Go.Proofs.YtkmcmmcencdcpaaGreatDoor
