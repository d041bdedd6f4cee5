/- Parts of the proof: memory, numbers, walks of the functions that are called. -/
import Derived.Test.YtnpbflhjglkokaaGreatDoorMg17
import Derived.Test.YtnpbflhjglkokaaGreatDoorMg16
set_option linter.unusedVariables false
set_option linter.unusedSimpArgs false
set_option maxRecDepth 100000
set_option maxHeartbeats 32000000
namespace Go.Proofs.YtnpbflhjglkokaaGreatDoor
open Go.RowKit Go.Deep
attribute [local go_sem ↓] Go.wp_at_zero Go.wp_at_succ
theorem Vj {z:Int} (h:len 4294967296 z.natAbs<=67108864):(yK z).length<=671088642:=by
 have:=Zi h
 unfold yK
 split
 . rw [List.length_cons];omega
 . omega
theorem zcy {q:Rat} (h:q.den=1):zS q=yK q.num:=by
 unfold zS yK
 rw [if_pos h]
 by_cases h0:q.num<0
 . rw [if_pos h0,if_pos h0];simp
 . rw [if_neg h0,if_neg h0];simp
theorem zcm {q:Rat} (h:q.den≠1):zS q=yK q.num ++ 47 :: yK (q.den:Int):=by
 have hd:yK (q.den:Int)=dec q.den:=by unfold yK;rw [if_neg (by omega),Int.natAbs_natCast]
 rw [hd]
 unfold zS yK
 rw [if_neg h]
 by_cases h0:q.num<0
 . rw [if_pos h0,if_pos h0];simp
 . rw [if_neg h0,if_neg h0];simp
theorem zbe (a b:List UInt8):(⟨a.toArray⟩:ByteArray) ++ (⟨b.toArray⟩:ByteArray)=⟨(a ++ b).toArray⟩:=by
 apply ByteArray.ext
 rw [ByteArray.data_append]
 simp
theorem zK.one {w:World} {y d:Int} {B:Option Addr} {k c:Nat} {t:Bool} (h:zK w (.agg #[.int .i64 y,.slice B k c,.bool t]) d):d=1↔(B=none/\y=1):=by
 rcases h with ⟨x,ng,e,h1,h2,rfl⟩ | ⟨ad,k',c',n,ng,e,h1,h2,rfl⟩
 . injection e with e
   have e0:=congrArg (fun a=>a.toList) e;simp at e0;obtain ⟨rfl,⟨rfl,rfl,rfl⟩,rfl⟩:=e0
   simp
 . injection e with e
   have e0:=congrArg (fun a=>a.toList) e;simp at e0;obtain ⟨rfl,⟨rfl,rfl,rfl⟩,rfl⟩:=e0
   constructor
   . intro h
     split at h<;>omega
   . intro h;cases h.1
theorem XX (va:Value) (q:Rat) (w:World) (ha:yw w va q) (hl:ZI 67108864 q):
 Calls Tryz.prog 113 #[va] w (zfb w (zS q)):=by
 obtain ⟨x1,A1,k1,c1,s1,y1,B1,k1x,c1x,t1,rfl,ha1,ha2⟩:=ha
 have h1:=zK.one ha2
 have HB:=ze (zf w (.cells #[.int .i64 x1,.slice A1 k1 c1,.bool s1,.int .i64 y1,.slice B1 k1x c1x,.bool t1] 111))
 have HA:=ze (ha1.below HB.out)
 have HAN:=ze ha1
 have HAD:=ze ha2
 have HL1:=ze hl.1
 have HL2:=ze hl.2
 have q0:=fun w=>zg2 w B1 k1x c1x 0 0
 by_cases hd:q.den=1
 . obtain ⟨rfl,rfl⟩:=h1.1 (by omega)
   rw [zcy hd];clear h1 ha1 ha2 hd hl
   go_enter Tryz.func113,Tryz.ntmps113
   go_wp2_with fail;refine (YM _ q.num _ HA.out HL1.out).mono ?_;rintro e w1 ⟨rfl,hb1⟩;go_wp2;go_ret;exact ⟨rfl,ext HB.out hb1⟩
 . have hl1:=Vj HL1.out
   have hl2:=Vj HL2.out;have HT:=ze (zcm hd);have hno:¬ (B1=none/\y1=1):=fun h=>hd (by have:=h1.2 h;omega)
   have hs1:¬ 9223372036854775807<(yK q.num).length+1:=by omega
   have hs2:¬ 9223372036854775807<(yK q.num).length+1+(yK (q.den:Int)).length:=by omega
   clear h1 ha1 ha2 hd hl hl1 hl2
   have hB0:B1=none->((y1:Int) == 1)=false:=by
    intro e;rw [beq_eq_false_iff_ne];exact fun h=>hno ⟨e,h⟩
   clear hno
   rcases B1 with _ | bd
   . have hy1:=hB0 rfl
     clear hB0;have HWX:Hid (Below w.heap.size w ((w.alloc (.cells #[.int .i64 x1,.slice A1 k1 c1,.bool s1,.int .i64 y1,.slice none k1x c1x,.bool t1] 111)).drew)):=ze (zp HB.out 1);clear HB HA
     go_enter Tryz.func113,Tryz.ntmps113
     go_wp2_with fail
     go_region_held3 (fun w' =>w'.cell? ⟨w.heap.size,0,none⟩=some (.int .i64 x1)/\w'.cell? ⟨w.heap.size,1,none⟩=some (.slice A1 k1 c1)/\w'.cell? ⟨w.heap.size,2,none⟩=some (.bool s1)/\w'.cell? ⟨w.heap.size,3,none⟩=some (.int .i64 y1)/\w'.cell? ⟨w.heap.size,4,none⟩=some (.slice none k1x c1x)/\w'.cell? ⟨w.heap.size,5,none⟩=some (.bool t1)/\w.heap.size<w'.heap.size/\Hid (Below w.heap.size w w'))
      (first
        | with_reducible exact ⟨by go_keep,by go_keep,by go_keep,by go_keep,by go_keep,by go_keep,by first | (simp;done) | (simp;omega),HWX⟩
        | (go_split_ands;with_reducible exact ⟨zk ‹_› ‹_› ‹_›,zk ‹_› ‹_› ‹_›,zk ‹_› ‹_› ‹_›,zk ‹_› ‹_› ‹_›,zk ‹_› ‹_› ‹_›,zk ‹_› ‹_› ‹_›,zR ‹_› ‹_›,zl ‹_› ‹_›⟩)
        | go_keep)
      (first
        | (go_at_call_of 190 (Value.agg #[.int .i64 x1,.slice A1 k1 c1,.bool s1]);refine (YM _ q.num _ (HAN.out.below (zO (by go_split_ands;assumption))) HL1.out).mono ?_;rintro e w1 ⟨rfl,hb1⟩)
        | (go_at_call_of 190 (Value.agg #[.int .i64 y1,.slice none k1x c1x,.bool t1]);refine (YM _ (q.den:Int) _ (HAD.out.below (zO (by go_split_ands;assumption))) HL2.out).mono ?_;rintro e w2 ⟨rfl,hb2⟩))
     all_goals
      go_split_ands;have hRW:=zO (by assumption:Hid (Below w.heap.size w w2));go_wp2;go_ret;refine ⟨?_,hRW⟩;rw [HT.out,show yK q.num ++ 47 :: yK (q.den:Int)=(yK q.num ++ [47]) ++ yK (q.den:Int) by simp, <- zbe, <- zbe]
      rfl
   . clear hB0
     have HWX:Hid (Below w.heap.size w ((w.alloc (.cells #[.int .i64 x1,.slice A1 k1 c1,.bool s1,.int .i64 y1,.slice (some bd) k1x c1x,.bool t1] 111)).drew)):=ze (zp HB.out 1);clear HB HA
     go_enter Tryz.func113,Tryz.ntmps113
     go_wp2_with fail
     go_region_held3 (fun w' =>w'.cell? ⟨w.heap.size,0,none⟩=some (.int .i64 x1)/\w'.cell? ⟨w.heap.size,1,none⟩=some (.slice A1 k1 c1)/\w'.cell? ⟨w.heap.size,2,none⟩=some (.bool s1)/\w'.cell? ⟨w.heap.size,3,none⟩=some (.int .i64 y1)/\w'.cell? ⟨w.heap.size,4,none⟩=some (.slice (some bd) k1x c1x)/\w'.cell? ⟨w.heap.size,5,none⟩=some (.bool t1)/\w.heap.size<w'.heap.size/\Hid (Below w.heap.size w w'))
      (first
        | with_reducible exact ⟨by go_keep,by go_keep,by go_keep,by go_keep,by go_keep,by go_keep,by first | (simp;done) | (simp;omega),HWX⟩
        | (go_split_ands;with_reducible exact ⟨zk ‹_› ‹_› ‹_›,zk ‹_› ‹_› ‹_›,zk ‹_› ‹_› ‹_›,zk ‹_› ‹_› ‹_›,zk ‹_› ‹_› ‹_›,zk ‹_› ‹_› ‹_›,zR ‹_› ‹_›,zl ‹_› ‹_›⟩)
        | go_keep)
      (first
        | (go_at_call_of 190 (Value.agg #[.int .i64 x1,.slice A1 k1 c1,.bool s1]);refine (YM _ q.num _ (HAN.out.below (zO (by go_split_ands;assumption))) HL1.out).mono ?_;rintro e w1 ⟨rfl,hb1⟩)
        | (go_at_call_of 190 (Value.agg #[.int .i64 y1,.slice (some bd) k1x c1x,.bool t1]);refine (YM _ (q.den:Int) _ (HAD.out.below (zO (by go_split_ands;assumption))) HL2.out).mono ?_;rintro e w2 ⟨rfl,hb2⟩))
     all_goals
      go_split_ands;have hRW:=zO (by assumption:Hid (Below w.heap.size w w2));go_wp2;go_ret;refine ⟨?_,hRW⟩;rw [HT.out,show yK q.num ++ 47 :: yK (q.den:Int)=(yK q.num ++ [47]) ++ yK (q.den:Int) by simp, <- zbe, <- zbe]
      rfl
theorem Vd (M:Nat) (q:Rat):(!decide (yP M q))=(decide (M<(dec q.num.natAbs).length) || decide (M<(dec q.den).length)):=by
 by_cases h1:(dec q.num.natAbs).length<=M
 . by_cases h2:(dec q.den).length<=M
   . rw [decide_eq_true (show yP M q from ⟨h1,h2⟩),decide_eq_false (by omega),decide_eq_false (by omega)];rfl
   . rw [decide_eq_false (fun h:yP M q=>h2 h.2),decide_eq_true (show M<(dec q.den).length by omega),Bool.or_true];rfl
 . rw [decide_eq_false (fun h:yP M q=>h1 h.1),decide_eq_true (show M<(dec q.num.natAbs).length by omega)];rfl
theorem yk.slice {w:World} {v:Value} {n:Nat} (h:yk w v n):∃ A c,v= .slice A (len 4294967296 n) c:=by
 obtain ⟨A',c',ds,e,h1,h2,h3,h4,h5⟩:=h
 refine ⟨A',c',?_⟩
 rw [e, <- h5,h4.length_eq (by omega)]
theorem Y1 {n M:Nat} (h:len 4294967296 n*10<=M) (hM:1<=M):(dec n).length<=M:=by
 by_cases h0:n=0
 . subst h0;rw [x7];simpa using hM
 . rw [zak n h0]
   have h4:len 10 n<=10*len 4294967296 n:=by
    apply ya (by omega)
    have h1:=xa (β:=4294967296) (by omega) n;have h2:4294967296 ^ len 4294967296 n<=(10 ^ 10) ^ len 4294967296 n:=Nat.pow_le_pow_left (by omega) _;rw [<- Nat.pow_mul] at h2;exact Nat.lt_of_lt_of_le h1 h2
   omega
theorem zan (va:Value) (q:Rat) (M:Nat) (w:World) (ha:yw w va q) (hl:ZI 67108864 q) (h1M:1<=M) (hM2:M<=1000000):
 Calls Tryz.prog 135 #[va,.int .i64 M] w (zg1 w (.bool (!decide (yP M q)))):=by
 obtain ⟨x1,A1,k1,c1,s1,y1,B1,k1x,c1x,t1,rfl,ha1,ha2⟩:=ha
 have hW:=zf w (.cells #[.int .i64 x1,.slice A1 k1 c1,.bool s1,.int .i64 y1,.slice B1 k1x c1x,.bool t1] 111)
 have HA:=ze (ha1.below hW)
 have HD:=ze (ha2.below hW)
 have HW:=ze hW
 have HL1:=ze hl.1
 have HL2:=ze hl.2
 have kB:=Blk.new w 111 #[.int .i64 x1,.slice A1 k1 c1,.bool s1,.int .i64 y1,.slice B1 k1x c1x,.bool t1]
 have HK:=ze kB
 clear ha1 ha2 hl hW kB
 go_enter Tryz.func135,Tryz.ntmps135
 go_wp2_with fail
 refine (xO _ q.num _ HA.out).mono ?_
 rintro e w1 ⟨p,rfl,hp,hb1⟩
 have kB1:=HK.out.below hb1 HK.out.lt
 have b3:=kB1.cell 3
 have b4:=kB1.cell 4
 have b5:=kB1.cell 5
 simp at b3 b4 b5
 have HP:=ze hp
 have HB1:=ze hb1
 clear hp hb1 kB1
 go_wp2_with fail
 refine (xO _ (q.den:Int) _ (HD.out.below HB1.out)).mono ?_
 rintro e w2 ⟨p',rfl,hp',hb2⟩
 obtain ⟨A2,c2,rfl⟩:=HP.out.slice
 obtain ⟨A3,c3,rfl⟩:=hp'.slice
 have HP2:=ze (HP.out.below hb2)
 have HP' :=ze hp'
 have HW2:=ze (ext (ext HW.out HB1.out) hb2)
 clear b3 b4 b5 hp' hb2
 have hk1:len 4294967296 q.num.natAbs<=67108864:=HL1.out
 have hk2:len 4294967296 (q.den:Int).natAbs<=67108864:=HL2.out
 obtain ⟨a,hA⟩:∃ a,a=len 4294967296 q.num.natAbs:=⟨_,rfl⟩
 obtain ⟨b,hB⟩:∃ b,b=len 4294967296 (q.den:Int).natAbs:=⟨_,rfl⟩
 rw [<- hA] at hk1
 rw [<- hB] at hk2
 rw [<- hA] at HP2
 rw [<- hB] at HP'
 have HA' :=ze hA
 have HB' :=ze hB
 rw [<- hA, <- hB]
 clear hA hB
 rcases (show a<=b\/b<a by omega) with hab | hab
 . by_cases hm:b*10<=M
   . have HS:=ze (show yP M q from ⟨Y1 (by rw [<- HA'.out];omega) h1M,by have:=Y1 (n:=(q.den:Int).natAbs) (by rw [<- HB'.out];omega) h1M;rwa [Int.natAbs_natCast] at this⟩)
     have HR:=ze (show (!decide (yP M q))=false by rw [decide_eq_true HS.out];rfl);go_wp2_with fail;go_ret;exact ⟨yb HR.out,HW2.out⟩
   . have hm' :¬ (b:Int)*10<=(M:Int):=by omega
     have hd1:=Zi HL1.out;go_wp2_with fail;refine (Zb _ _ _ HP2.out HL1.out).mono ?_;rintro e w3 ⟨rfl,hb3⟩;have HP3:=ze (HP'.out.below hb3);have HW3:=ze (ext HW2.out hb3);clear hb3
     by_cases h1:(dec q.num.natAbs).length<=M
     . have hd2:=Zi HL2.out
       have hI1:¬ (M:Int)<((dec q.num.natAbs).length:Int):=by omega
       have HQ:=ze h1;clear h1
       by_cases h2:(dec (q.den:Int).natAbs).length<=M
       . have HR:=ze (show (!decide (yP M q))=false by rw [decide_eq_true ⟨HQ.out,by rw [Int.natAbs_natCast] at h2;exact h2⟩];rfl)
         have hI2:¬ (M:Int)<((dec (q.den:Int).natAbs).length:Int):=by omega
         clear h2;go_wp2_with fail;refine (Zb _ _ _ HP3.out HL2.out).mono ?_;rintro e w4 ⟨rfl,hb4⟩;go_wp2_with fail;go_ret;exact ⟨yb (Vd M q),ext HW3.out hb4⟩
       . have HR:=ze (show (!decide (yP M q))=true by rw [decide_eq_false (fun h=>h2 (by rw [Int.natAbs_natCast];exact h.2))];rfl)
         have hI2:(M:Int)<((dec (q.den:Int).natAbs).length:Int):=by omega
         clear h2;go_wp2_with fail;refine (Zb _ _ _ HP3.out HL2.out).mono ?_;rintro e w4 ⟨rfl,hb4⟩;go_wp2_with fail;go_ret;exact ⟨yb (Vd M q),ext HW3.out hb4⟩
     . have HR:=ze (show (!decide (yP M q))=true by rw [decide_eq_false (fun h=>h1 h.1)];rfl)
       have hI1:(M:Int)<((dec q.num.natAbs).length:Int):=by omega
       clear h1;go_wp2_with fail;go_ret;exact ⟨yb HR.out,HW3.out⟩
 . by_cases hm:a*10<=M
   . have HS:=ze (show yP M q from ⟨Y1 (by rw [<- HA'.out];omega) h1M,by have:=Y1 (n:=(q.den:Int).natAbs) (by rw [<- HB'.out];omega) h1M;rwa [Int.natAbs_natCast] at this⟩)
     have HR:=ze (show (!decide (yP M q))=false by rw [decide_eq_true HS.out];rfl);go_wp2_with fail;go_ret;exact ⟨yb HR.out,HW2.out⟩
   . have hm' :¬ (a:Int)*10<=(M:Int):=by omega
     have hd1:=Zi HL1.out;go_wp2_with fail;refine (Zb _ _ _ HP2.out HL1.out).mono ?_;rintro e w3 ⟨rfl,hb3⟩;have HP3:=ze (HP'.out.below hb3);have HW3:=ze (ext HW2.out hb3);clear hb3
     by_cases h1:(dec q.num.natAbs).length<=M
     . have hd2:=Zi HL2.out
       have hI1:¬ (M:Int)<((dec q.num.natAbs).length:Int):=by omega
       have HQ:=ze h1;clear h1
       by_cases h2:(dec (q.den:Int).natAbs).length<=M
       . have HR:=ze (show (!decide (yP M q))=false by rw [decide_eq_true ⟨HQ.out,by rw [Int.natAbs_natCast] at h2;exact h2⟩];rfl)
         have hI2:¬ (M:Int)<((dec (q.den:Int).natAbs).length:Int):=by omega
         clear h2;go_wp2_with fail;refine (Zb _ _ _ HP3.out HL2.out).mono ?_;rintro e w4 ⟨rfl,hb4⟩;go_wp2_with fail;go_ret;exact ⟨yb (Vd M q),ext HW3.out hb4⟩
       . have HR:=ze (show (!decide (yP M q))=true by rw [decide_eq_false (fun h=>h2 (by rw [Int.natAbs_natCast];exact h.2))];rfl)
         have hI2:(M:Int)<((dec (q.den:Int).natAbs).length:Int):=by omega
         clear h2;go_wp2_with fail;refine (Zb _ _ _ HP3.out HL2.out).mono ?_;rintro e w4 ⟨rfl,hb4⟩;go_wp2_with fail;go_ret;exact ⟨yb (Vd M q),ext HW3.out hb4⟩
     . have HR:=ze (show (!decide (yP M q))=true by rw [decide_eq_false (fun h=>h1 h.1)];rfl)
       have hI1:(M:Int)<((dec q.num.natAbs).length:Int):=by omega
       clear h1;go_wp2_with fail;go_ret;exact ⟨yb HR.out,HW3.out⟩
def YY (q:Rat):List UInt8×Int:=if yP 50000 q then (zS q,0) else ([],3)
def zlq (w:World) (r:List UInt8×Int) (e:Ending) (w' :World):Prop:=e= .returned (.tuple #[str r.1,.int .i64 r.2])/\Below w.heap.size w w'
theorem zjm (va:Value) (q:Rat) (w:World) (ha:yw w va q) (hl:ZI 67108864 q):
 Calls Tryz.prog 63 #[va] w (zlq w (YY q)):=by
 obtain ⟨x1,A1,k1,c1,s1,y1,B1,k1x,c1x,t1,rfl,ha1,ha2⟩:=ha
 have hW:=zf w (.cells #[.int .i64 x1,.slice A1 k1 c1,.bool s1,.int .i64 y1,.slice B1 k1x c1x,.bool t1] 111)
 have HR:=ze (show yw _ _ q from ⟨_,_,_,_,_,_,_,_,_,_,rfl,ha1.below hW,ha2.below hW⟩)
 have HW:=ze hW
 have HL:=ze hl
 have kB:=Blk.new w 111 #[.int .i64 x1,.slice A1 k1 c1,.bool s1,.int .i64 y1,.slice B1 k1x c1x,.bool t1]
 have HK:=ze kB
 clear ha1 ha2 hl hW kB
 have hlg:=fun v w h hl=>zan v q 50000 w h hl (by omega) (by omega)
 by_cases hs:yP 50000 q
 . have e1:(!decide (yP 50000 q))=false:=by rw [decide_eq_true hs];rfl
   have e2:YY q=(zS q,0):=by unfold YY;rw [if_pos hs]
   rw [e1] at hlg;rw [e2];clear e1 e2 hs
   go_enter Tryz.func63,Tryz.ntmps63
   go_wp2_with fail;refine (hlg _ _ HR.out HL.out).mono ?_;rintro e w1 ⟨rfl,hb1⟩;have kB1:=HK.out.below hb1 HK.out.lt;have b0:=kB1.cell 0;have b1:=kB1.cell 1;have b2:=kB1.cell 2;have b3:=kB1.cell 3;have b4:=kB1.cell 4;have b5:=kB1.cell 5;simp at b0 b1 b2 b3 b4 b5;have HB1:=ze hb1;clear hb1 kB1;go_wp2_with fail;refine (XX _ q w1 (HR.out.below HB1.out) HL.out).mono ?_;rintro e w2 ⟨rfl,hb2⟩;have HB2:=ze hb2;clear hb2;go_wp2_with fail;go_ret2;exact ⟨rfl,ext (ext HW.out HB1.out) HB2.out⟩
 . have e1:(!decide (yP 50000 q))=true:=by rw [decide_eq_false hs];rfl
   have e2:YY q=([],3):=by unfold YY;rw [if_neg hs]
   rw [e1] at hlg;rw [e2];clear e1 e2 hs
   go_enter Tryz.func63,Tryz.ntmps63
   go_wp2_with fail;refine (hlg _ _ HR.out HL.out).mono ?_;rintro e w1 ⟨rfl,hb1⟩;have HB1:=ze hb1;clear hb1;go_wp2_with fail;go_ret2;exact ⟨rfl,ext HW.out HB1.out⟩
theorem Xn {w w' :World} {v:Value} {z:Int} (hb:Below w.heap.size w w') (h:Hid (zK w v z)):Hid (zK w' v z):=h.out.below hb
theorem vB {w:World} {g:Nat} {v:Value} {z x y:Int} {A B:Option Addr} {k c k' c' :Nat} {s t:Bool} (hr:Hid (YJ w g)) (h:Hid (zK w v z)):Hid (zK (World.rat w g x A k c s y B k' c' t) v z):=by
 obtain ⟨x,A,k,c,s,y,B,k',c',t,hr⟩:=hr.out
 exact yt h.out hr
def znk (v:Value):Prop:=∃ (x:Int) (A:Option Addr) (k c:Nat) (s:Bool) (y:Int) (B:Option Addr) (k' c' :Nat) (t:Bool),v= .agg #[.int .i64 x,.slice A k c,.bool s,.int .i64 y,.slice B k' c',.bool t]
def xf (w:World) (l:List UInt8) (e:Ending) (w' :World):Prop:=
 ∃ v b,e= .returned (.tuple #[v,.bool b])/\znk v/\b=(zq l).isSome/\(∀ q,zq l=some q->yw w' v q)/\Below w.heap.size w w'
theorem xf.no {w w' :World} {l:List UInt8} {v:Value} (h:zq l=none) (hv:znk v) (hb:Below w.heap.size w w'):xf w l (.returned (.tuple #[v,.bool false])) w' :=
 ⟨v,false,rfl,hv,by rw [h];rfl,fun q hq=>(by rw [h] at hq;cases hq),hb⟩
theorem xf.yes {w w' :World} {l:List UInt8} {v:Value} {q:Rat} (h:zq l=some q) (hv:yw w' v q) (hb:Below w.heap.size w w'):xf w l (.returned (.tuple #[v,.bool true])) w' :=by
 refine ⟨v,true,rfl,?_,(by rw [h];rfl),fun q' hq=>?_,hb⟩
 . obtain ⟨x,A,k,c,s,y,B,k',c',t,rfl,_,_⟩:=hv
   exact ⟨x,A,k,c,s,y,B,k',c',t,rfl⟩
 . rw [h] at hq;injection hq with hq;rw [<- hq];exact hv
theorem xf.maybe {w w' :World} {l:List UInt8} {v:Value} {q:Rat} {d:Nat} (h:zq l=if q.den=d then some q else none) (hv:yw w' v q) (hb:Below w.heap.size w w'):
 xf w l (.returned (.tuple #[v,.bool (zF (q.den:Int) (signed false d) == 0)])) w' :=by
 have e:(zF (q.den:Int) (signed false d) == 0)=decide (q.den=d):=by
  unfold zF signed
  simp only [Bool.false_eq_true,if_false]
  rcases Nat.lt_trichotomy q.den d with h1 | h1 | h1
  . rw [if_pos (by omega),decide_eq_false (by omega)];rfl
  . rw [if_neg (by omega),if_neg (by omega),decide_eq_true h1];rfl
  . rw [if_neg (by omega),if_pos (by omega),decide_eq_false (by omega)];rfl
 rw [e]
 by_cases hd:q.den=d
 . rw [decide_eq_true hd]
   rw [if_pos hd] at h;exact xf.yes h hv hb
 . rw [decide_eq_false hd]
   rw [if_neg hd] at h;obtain ⟨x,A,k,c,s,y,B,k',c',t,rfl,_,_⟩:=hv;exact xf.no h ⟨x,A,k,c,s,y,B,k',c',t,rfl⟩ hb
theorem Xo (a:ByteArray) (c:UInt8):(a.toList == [c])=decide (bts a=[c]):=by
 rw [Lib.toList_data]
 unfold bts
 rw [Bool.eq_iff_iff,beq_iff_eq,decide_eq_true_iff]
theorem zdv (w:World):zK w (.agg #[.int .i64 1,.slice none 0 0,.bool false]) 1:=.inl ⟨1,false,rfl,by omega,by omega,rfl⟩
theorem Zx (s:Bool) (n d:Nat):Rat.divInt (signed s n) (signed false d)=xj s n d:=by
 unfold xj signed
 cases s<;>simp
theorem xz {s:Bool} {n M:Nat} (h:len 4294967296 n<=M):len 4294967296 (signed s n).natAbs<=M:=by
 unfold signed
 cases s<;>simpa using h
theorem Zy (s:ByteArray) (w:World) (hs:s.size<=1073741824):
 Calls Tryz.prog 80 #[.string s] w (xf w (bts s)):=by
 have hcp:=fun w=>zaw s w hs
 have kR:=Blk.new w 111 #[.int .i64 0,.slice none 0 0,.bool false,.int .i64 0,.slice none 0 0,.bool false]
 have hWR:=zf w (.cells #[.int .i64 0,.slice none 0 0,.bool false,.int .i64 0,.slice none 0 0,.bool false] 111)
 go_enter Tryz.func80,Tryz.ntmps80
 go_wp2_with fail
 refine (hcp _).mono ?_
 rintro e w1 ⟨u,rfl,hu,rfl⟩
 have hus:u.size<=1073741824:=by
  rw [<- zi,hu]
  unfold zm
  have:=zi s
  split
  . rw [List.length_tail];omega
  . omega
 have hct:=fun w=>zmw u 47 w hus
 obtain ⟨neg,hneg⟩:∃ neg,neg=yo (bts s):=⟨_,rfl⟩
 rw [<- hneg]
 have HU:=ze hu
 have HN:=ze hneg
 clear hcp hu hneg
 go_wp2_with fail
 refine (hct _).mono ?_
 rintro e w1 ⟨a,b,rfl,ha,hb,n1,rfl⟩
 rw [HU.out] at ha hb |-
 obtain ⟨is_,his⟩:∃ is_,is_=has 47 (zm (bts s)):=⟨_,rfl⟩
 rw [<- his] at hb |-
 have has1:a.size<=1073741824:=by
  have h1:(ahead 47 (zm (bts s))).length<=(zm (bts s)).length:=(List.takeWhile_sublist _).length_le
  rw [<- ha, <- HU.out,zi,zi] at h1
  omega
 have hbs1:b.size<=1073741824:=by
  rw [<- zi,hb]
  split
  . have h1:(zW 47 (zm (bts s))).length<=(zm (bts s)).length:=by
     unfold zW;rw [List.length_tail];have:=(List.dropWhile_sublist (fun x=>x != (47:UInt8)) (l:=zm (bts s))).length_le
     omega
    rw [<- HU.out,zi] at h1;rw [HU.out] at h1
    omega
  . simp
 have hpa:=fun w=>zcx a w has1
 have hpb:=fun w=>zcx b w hbs1
 have za:=Xo a 48
 have zb:=Xo b 48
 have zc:=Xo b 49
 rw [ha] at hpa za
 have HA:=ze ha
 have HB:=ze hb
 have HI:=ze his
 have HS:=ze hs
 have kR1:=kR.drewN n1
 have hWR1:=zp hWR n1
 clear hct ha hb his hus has1 hbs1 hs kR hWR
 generalize (w.alloc (.cells #[.int .i64 0,.slice none 0 0,.bool false,.int .i64 0,.slice none 0 0,.bool false] 111)).drewN n1=w1 at kR1 hWR1 |-
 have lR:=kR1.lt
 have r0:=kR1.cell 0
 have r1:=kR1.cell 1
 have r2:=kR1.cell 2
 have r3:=kR1.cell 3
 have r4:=kR1.cell 4
 have r5:=kR1.cell 5
 have f0:=kR1.frozen 0
 have f1:=kR1.frozen 1
 have f2:=kR1.frozen 2
 have f3:=kR1.frozen 3
 have f4:=kR1.frozen 4
 have f5:=kR1.frozen 5
 simp at r0 r1 r2 r3 r4 r5
 have HKR:=ze kR1
 have HWR:=ze hWR1
 clear kR1 hWR1
 cases hpl:zQ (ahead 47 (zm (bts s))) with
 | false=>
   have HP:=ze (zk1 hpl);rw [hpl] at hpa;clear hpl za zb zc hpb;go_wp2_with fail;refine (hpa _).mono ?_;rintro e w2 ⟨rfl,rfl⟩;go_wp2_with fail;have kR2:=ym (x:=0) (A:=none) (k:=0) (c:=0) (s:=false) (y:=0) (B:=none) (k' :=0) (c' :=0) (t:=false) HKR.out;have e0:=kR2.cell 0;have e1:=kR2.cell 1;have e2:=kR2.cell 2;have e3:=kR2.cell 3;have e4:=kR2.cell 4;have e5:=kR2.cell 5;simp only [World.rat] at e0 e1 e2 e3 e4 e5;simp at e0 e1 e2 e3 e4 e5;refine bodyPost_ret (v:=.tuple #[.agg #[.int .i64 0,.slice none 0 0,.bool false,.int .i64 0,.slice none 0 0,.bool false],.bool false]) (by simp [results,Tryz.results80,go_sem,e0,e1,e2,e3,e4,e5]) rfl ?_;exact xf.no HP.out ⟨_,_,_,_,_,_,_,_,_,_,rfl⟩ (zX (x:=0) (A:=none) (k:=0) (c:=0) (s:=false) (y:=0) (B:=none) (k' :=0) (c' :=0) (t:=false) HWR.out (Nat.le_refl _))
 | true=>
   have HPL:=ze hpl;rw [hpl] at hpa;clear hpl;go_wp2_with fail;refine (hpa _).mono ?_;rintro e w2 ⟨rfl,rfl⟩;clear hpa
   cases neg with
   | false=>
     cases za1:(a.toList == [48]) with
     | true=>
       cases is_ with
       | false=>
         have HP:=ze (Xl HPL.out (fun h=>by rw [<- HN.out] at h;cases h) HI.out.symm);have HC:=ze (Zs HPL.out);rw [<- HN.out] at HP;have HAS:=ze (show a.size<=50000 by rw [<- zi,HA.out];exact HC.out.2);clear za zb zc hpb;go_wp2_with fail;refine (vK a _ (by rw [HA.out];exact HC.out.1) HAS.out).mono ?_;rintro e w2 ⟨v,rfl,hv,hb2⟩;rw [HA.out] at hv;have HV:=ze hv;have HKR2:=ze (HKR.out.below hb2 lR);have HWR2:=ze (ext HWR.out hb2);clear hv hb2 r0 r1 r2 r3 r4 r5 f0 f1 f2 f3 f4 f5;go_wp2_with fail;refine (zT false v _ w2 HV.out).mono ?_;rintro e w3 ⟨v3,rfl,hv3,hb3⟩;obtain ⟨x',A',k',c',ng',rfl,_,_,_⟩:=hv3.form;have hb4:=zf w3 (.cells #[.int .i64 x',.slice A' k' c',.bool ng'] 109);have HV3:=ze (hv3.below hb4);have kR3:=(HKR2.out.below hb3 HKR2.out.lt).below hb4 (HKR2.out.below hb3 HKR2.out.lt).lt;have HWR3:=ze (ext (ext HWR2.out hb3) hb4);have HKR3:=ze kR3;have r0:=kR3.cell 0;have r1:=kR3.cell 1;have r2:=kR3.cell 2;have r3:=kR3.cell 3;have r4:=kR3.cell 4;have r5:=kR3.cell 5;have f0:=kR3.frozen 0;have f1:=kR3.frozen 1;have f2:=kR3.frozen 2;have f3:=kR3.frozen 3;have f4:=kR3.frozen 4
         have f5:=kR3.frozen 5;simp at r0 r1 r2 r3 r4 r5;have kX:=Blk.new w3 109 #[.int .i64 x',.slice A' k' c',.bool ng'];have g0:=kX.cell 0;have g1:=kX.cell 1;have g2:=kX.cell 2;simp at g0 g1 g2;clear hb3 hv3 hb4 kR3 kX lR;go_wp2_with fail;have kR4:=ym (x:=x') (A:=A') (k:=k') (c:=c') (s:=ng') (y:=1) (B:=none) (k' :=0) (c' :=0) (t:=false) HKR3.out;have e0:=kR4.cell 0;have e1:=kR4.cell 1;have e2:=kR4.cell 2;have e3:=kR4.cell 3;have e4:=kR4.cell 4;have e5:=kR4.cell 5;simp only [World.rat] at e0 e1 e2 e3 e4 e5;simp at e0 e1 e2 e3 e4 e5;refine bodyPost_ret (v:=.tuple #[.agg #[.int .i64 x',.slice A' k' c',.bool ng',.int .i64 1,.slice none 0 0,.bool false],.bool true]) (by simp [results,Tryz.results80,go_sem,e0,e1,e2,e3,e4,e5]) rfl ?_;refine xf.yes HP.out ⟨_,_,_,_,_,_,_,_,_,_,rfl,?_,?_⟩ (zX HWR3.out (Nat.le_refl _))
         . rw [(ZC _ _).1]
           exact yt HV3.out HKR3.out
         . rw [(ZC _ _).2]
           exact zdv _
       | true=>
         cases hpb2:zQ (bts b) with
         | false=>
           have HP:=ze (vD HI.out.symm (.inl (by have:=HB.out;rw [if_pos rfl] at this;rw [<- this];exact hpb2)));rw [hpb2] at hpb;clear hpb2 za zb zc;go_wp2_with fail;refine (hpb _).mono ?_;rintro e w2 ⟨rfl,rfl⟩;go_wp2_with fail;have kR2:=ym (x:=0) (A:=none) (k:=0) (c:=0) (s:=false) (y:=0) (B:=none) (k' :=0) (c' :=0) (t:=false) HKR.out;have e0:=kR2.cell 0;have e1:=kR2.cell 1;have e2:=kR2.cell 2;have e3:=kR2.cell 3;have e4:=kR2.cell 4;have e5:=kR2.cell 5;simp only [World.rat] at e0 e1 e2 e3 e4 e5;simp at e0 e1 e2 e3 e4 e5;refine bodyPost_ret (v:=.tuple #[.agg #[.int .i64 0,.slice none 0 0,.bool false,.int .i64 0,.slice none 0 0,.bool false],.bool false]) (by simp [results,Tryz.results80,go_sem,e0,e1,e2,e3,e4,e5]) rfl ?_;exact xf.no HP.out ⟨_,_,_,_,_,_,_,_,_,_,rfl⟩ (zX (x:=0) (A:=none) (k:=0) (c:=0) (s:=false) (y:=0) (B:=none) (k' :=0) (c' :=0) (t:=false) HWR.out (Nat.le_refl _))
         | true=>
           have HPB:=ze hpb2;rw [hpb2] at hpb;clear hpb2
           cases zb1:(b.toList == [48]) with
           | true=>
             have HP:=ze (vD HI.out.symm (.inr (.inl (by have:=HB.out;rw [if_pos rfl] at this;rw [<- this];exact of_decide_eq_true (zb.symm.trans zb1)))));clear za zb zc;go_wp2_with fail;refine (hpb _).mono ?_;rintro e w2 ⟨rfl,rfl⟩;go_wp2_with fail;have kR2:=ym (x:=0) (A:=none) (k:=0) (c:=0) (s:=false) (y:=0) (B:=none) (k' :=0) (c' :=0) (t:=false) HKR.out;have e0:=kR2.cell 0;have e1:=kR2.cell 1;have e2:=kR2.cell 2;have e3:=kR2.cell 3;have e4:=kR2.cell 4;have e5:=kR2.cell 5;simp only [World.rat] at e0 e1 e2 e3 e4 e5;simp at e0 e1 e2 e3 e4 e5;refine bodyPost_ret (v:=.tuple #[.agg #[.int .i64 0,.slice none 0 0,.bool false,.int .i64 0,.slice none 0 0,.bool false],.bool false]) (by simp [results,Tryz.results80,go_sem,e0,e1,e2,e3,e4,e5]) rfl ?_;exact xf.no HP.out ⟨_,_,_,_,_,_,_,_,_,_,rfl⟩ (zX (x:=0) (A:=none) (k:=0) (c:=0) (s:=false) (y:=0) (B:=none) (k' :=0) (c' :=0) (t:=false) HWR.out (Nat.le_refl _))
           | false=>
             cases zc1:(b.toList == [49]) with
             | true=>
               have HP:=ze (vD HI.out.symm (.inr (.inr (.inl (by have:=HB.out;rw [if_pos rfl] at this;rw [<- this];exact of_decide_eq_true (zc.symm.trans zc1))))));clear za zb zc;go_wp2_with fail;refine (hpb _).mono ?_;rintro e w2 ⟨rfl,rfl⟩;go_wp2_with fail;have kR2:=ym (x:=0) (A:=none) (k:=0) (c:=0) (s:=false) (y:=0) (B:=none) (k' :=0) (c' :=0) (t:=false) HKR.out;have e0:=kR2.cell 0;have e1:=kR2.cell 1;have e2:=kR2.cell 2;have e3:=kR2.cell 3;have e4:=kR2.cell 4;have e5:=kR2.cell 5;simp only [World.rat] at e0 e1 e2 e3 e4 e5;simp at e0 e1 e2 e3 e4 e5;refine bodyPost_ret (v:=.tuple #[.agg #[.int .i64 0,.slice none 0 0,.bool false,.int .i64 0,.slice none 0 0,.bool false],.bool false]) (by simp [results,Tryz.results80,go_sem,e0,e1,e2,e3,e4,e5]) rfl ?_;exact xf.no HP.out ⟨_,_,_,_,_,_,_,_,_,_,rfl⟩ (zX (x:=0) (A:=none) (k:=0) (c:=0) (s:=false) (y:=0) (B:=none) (k' :=0) (c' :=0) (t:=false) HWR.out (Nat.le_refl _))
             | false=>
               have HP:=ze (vD HI.out.symm (.inr (.inr (.inr (of_decide_eq_true (by rw [<- za];exact za1))))));clear za zb zc;go_wp2_with fail;refine (hpb _).mono ?_;rintro e w2 ⟨rfl,rfl⟩;go_wp2_with fail;have kR2:=ym (x:=0) (A:=none) (k:=0) (c:=0) (s:=false) (y:=0) (B:=none) (k' :=0) (c' :=0) (t:=false) HKR.out;have e0:=kR2.cell 0;have e1:=kR2.cell 1;have e2:=kR2.cell 2;have e3:=kR2.cell 3;have e4:=kR2.cell 4;have e5:=kR2.cell 5;simp only [World.rat] at e0 e1 e2 e3 e4 e5;simp at e0 e1 e2 e3 e4 e5;refine bodyPost_ret (v:=.tuple #[.agg #[.int .i64 0,.slice none 0 0,.bool false,.int .i64 0,.slice none 0 0,.bool false],.bool false]) (by simp [results,Tryz.results80,go_sem,e0,e1,e2,e3,e4,e5]) rfl ?_;exact xf.no HP.out ⟨_,_,_,_,_,_,_,_,_,_,rfl⟩ (zX (x:=0) (A:=none) (k:=0) (c:=0) (s:=false) (y:=0) (B:=none) (k' :=0) (c' :=0) (t:=false) HWR.out (Nat.le_refl _))
     | false=>
       cases is_ with
       | false=>
         have HP:=ze (Xl HPL.out (fun h=>by rw [<- HN.out] at h;cases h) HI.out.symm);have HC:=ze (Zs HPL.out);rw [<- HN.out] at HP;have HAS:=ze (show a.size<=50000 by rw [<- zi,HA.out];exact HC.out.2);clear za zb zc hpb;go_wp2_with fail;refine (vK a _ (by rw [HA.out];exact HC.out.1) HAS.out).mono ?_;rintro e w2 ⟨v,rfl,hv,hb2⟩;rw [HA.out] at hv;have HV:=ze hv;have HKR2:=ze (HKR.out.below hb2 lR);have HWR2:=ze (ext HWR.out hb2);clear hv hb2 r0 r1 r2 r3 r4 r5 f0 f1 f2 f3 f4 f5;go_wp2_with fail;refine (zT false v _ w2 HV.out).mono ?_;rintro e w3 ⟨v3,rfl,hv3,hb3⟩;obtain ⟨x',A',k',c',ng',rfl,_,_,_⟩:=hv3.form;have hb4:=zf w3 (.cells #[.int .i64 x',.slice A' k' c',.bool ng'] 109);have HV3:=ze (hv3.below hb4);have kR3:=(HKR2.out.below hb3 HKR2.out.lt).below hb4 (HKR2.out.below hb3 HKR2.out.lt).lt;have HWR3:=ze (ext (ext HWR2.out hb3) hb4);have HKR3:=ze kR3;have r0:=kR3.cell 0;have r1:=kR3.cell 1;have r2:=kR3.cell 2;have r3:=kR3.cell 3;have r4:=kR3.cell 4;have r5:=kR3.cell 5;have f0:=kR3.frozen 0;have f1:=kR3.frozen 1;have f2:=kR3.frozen 2;have f3:=kR3.frozen 3;have f4:=kR3.frozen 4
         have f5:=kR3.frozen 5;simp at r0 r1 r2 r3 r4 r5;have kX:=Blk.new w3 109 #[.int .i64 x',.slice A' k' c',.bool ng'];have g0:=kX.cell 0;have g1:=kX.cell 1;have g2:=kX.cell 2;simp at g0 g1 g2;clear hb3 hv3 hb4 kR3 kX lR;go_wp2_with fail;have kR4:=ym (x:=x') (A:=A') (k:=k') (c:=c') (s:=ng') (y:=1) (B:=none) (k' :=0) (c' :=0) (t:=false) HKR3.out;have e0:=kR4.cell 0;have e1:=kR4.cell 1;have e2:=kR4.cell 2;have e3:=kR4.cell 3;have e4:=kR4.cell 4;have e5:=kR4.cell 5;simp only [World.rat] at e0 e1 e2 e3 e4 e5;simp at e0 e1 e2 e3 e4 e5;refine bodyPost_ret (v:=.tuple #[.agg #[.int .i64 x',.slice A' k' c',.bool ng',.int .i64 1,.slice none 0 0,.bool false],.bool true]) (by simp [results,Tryz.results80,go_sem,e0,e1,e2,e3,e4,e5]) rfl ?_;refine xf.yes HP.out ⟨_,_,_,_,_,_,_,_,_,_,rfl,?_,?_⟩ (zX HWR3.out (Nat.le_refl _))
         . rw [(ZC _ _).1]
           exact yt HV3.out HKR3.out
         . rw [(ZC _ _).2]
           exact zdv _
       | true=>
         cases hpb2:zQ (bts b) with
         | false=>
           have HP:=ze (vD HI.out.symm (.inl (by have:=HB.out;rw [if_pos rfl] at this;rw [<- this];exact hpb2)));rw [hpb2] at hpb;clear hpb2 za zb zc;go_wp2_with fail;refine (hpb _).mono ?_;rintro e w2 ⟨rfl,rfl⟩;go_wp2_with fail;have kR2:=ym (x:=0) (A:=none) (k:=0) (c:=0) (s:=false) (y:=0) (B:=none) (k' :=0) (c' :=0) (t:=false) HKR.out;have e0:=kR2.cell 0;have e1:=kR2.cell 1;have e2:=kR2.cell 2;have e3:=kR2.cell 3;have e4:=kR2.cell 4;have e5:=kR2.cell 5;simp only [World.rat] at e0 e1 e2 e3 e4 e5;simp at e0 e1 e2 e3 e4 e5;refine bodyPost_ret (v:=.tuple #[.agg #[.int .i64 0,.slice none 0 0,.bool false,.int .i64 0,.slice none 0 0,.bool false],.bool false]) (by simp [results,Tryz.results80,go_sem,e0,e1,e2,e3,e4,e5]) rfl ?_;exact xf.no HP.out ⟨_,_,_,_,_,_,_,_,_,_,rfl⟩ (zX (x:=0) (A:=none) (k:=0) (c:=0) (s:=false) (y:=0) (B:=none) (k' :=0) (c' :=0) (t:=false) HWR.out (Nat.le_refl _))
         | true=>
           have HPB:=ze hpb2;rw [hpb2] at hpb;clear hpb2
           cases zb1:(b.toList == [48]) with
           | true=>
             have HP:=ze (vD HI.out.symm (.inr (.inl (by have:=HB.out;rw [if_pos rfl] at this;rw [<- this];exact of_decide_eq_true (zb.symm.trans zb1)))));clear za zb zc;go_wp2_with fail;refine (hpb _).mono ?_;rintro e w2 ⟨rfl,rfl⟩;go_wp2_with fail;have kR2:=ym (x:=0) (A:=none) (k:=0) (c:=0) (s:=false) (y:=0) (B:=none) (k' :=0) (c' :=0) (t:=false) HKR.out;have e0:=kR2.cell 0;have e1:=kR2.cell 1;have e2:=kR2.cell 2;have e3:=kR2.cell 3;have e4:=kR2.cell 4;have e5:=kR2.cell 5;simp only [World.rat] at e0 e1 e2 e3 e4 e5;simp at e0 e1 e2 e3 e4 e5;refine bodyPost_ret (v:=.tuple #[.agg #[.int .i64 0,.slice none 0 0,.bool false,.int .i64 0,.slice none 0 0,.bool false],.bool false]) (by simp [results,Tryz.results80,go_sem,e0,e1,e2,e3,e4,e5]) rfl ?_;exact xf.no HP.out ⟨_,_,_,_,_,_,_,_,_,_,rfl⟩ (zX (x:=0) (A:=none) (k:=0) (c:=0) (s:=false) (y:=0) (B:=none) (k' :=0) (c' :=0) (t:=false) HWR.out (Nat.le_refl _))
           | false=>
             cases zc1:(b.toList == [49]) with
             | true=>
               have HP:=ze (vD HI.out.symm (.inr (.inr (.inl (by have:=HB.out;rw [if_pos rfl] at this;rw [<- this];exact of_decide_eq_true (zc.symm.trans zc1))))));clear za zb zc;go_wp2_with fail;refine (hpb _).mono ?_;rintro e w2 ⟨rfl,rfl⟩;go_wp2_with fail;have kR2:=ym (x:=0) (A:=none) (k:=0) (c:=0) (s:=false) (y:=0) (B:=none) (k' :=0) (c' :=0) (t:=false) HKR.out;have e0:=kR2.cell 0;have e1:=kR2.cell 1;have e2:=kR2.cell 2;have e3:=kR2.cell 3;have e4:=kR2.cell 4;have e5:=kR2.cell 5;simp only [World.rat] at e0 e1 e2 e3 e4 e5;simp at e0 e1 e2 e3 e4 e5;refine bodyPost_ret (v:=.tuple #[.agg #[.int .i64 0,.slice none 0 0,.bool false,.int .i64 0,.slice none 0 0,.bool false],.bool false]) (by simp [results,Tryz.results80,go_sem,e0,e1,e2,e3,e4,e5]) rfl ?_;exact xf.no HP.out ⟨_,_,_,_,_,_,_,_,_,_,rfl⟩ (zX (x:=0) (A:=none) (k:=0) (c:=0) (s:=false) (y:=0) (B:=none) (k' :=0) (c' :=0) (t:=false) HWR.out (Nat.le_refl _))
             | false=>
               have HBB:=ze (show bts b=zW 47 (zm (bts s)) by rw [HB.out];rfl);have HD:=ze (Zs HPB.out);have HP:=ze (zcn HPL.out (fun h=>by rw [<- HN.out] at h;cases h) HI.out.symm (by rw [<- HBB.out];exact HPB.out) (fun h=>by have:=zb.symm.trans zb1;rw [decide_eq_true (HBB.out.trans h)] at this;cases this) (fun h=>by have:=zc.symm.trans zc1;rw [decide_eq_true (HBB.out.trans h)] at this;cases this));have HNZ:=ze (Xf (l:=zW 47 (zm (bts s))) (by rw [<- HBB.out];exact HPB.out) (fun h=>by have:=zb.symm.trans zb1;rw [decide_eq_true (HBB.out.trans h)] at this;cases this));have HLD:=ze (Xj (l:=zW 47 (zm (bts s))) (by rw [<- HBB.out];exact HPB.out));have HLN:=ze (Xj HPL.out);have HC:=ze (Zs HPL.out);rw [<- HN.out] at HP;have HAS:=ze (show a.size<=50000 by rw [<- zi,HA.out];exact HC.out.2);have HBS:=ze (show b.size<=50000 by rw [<- zi];exact HD.out.2);clear za zb zc;go_wp2_with fail;refine (hpb _).mono ?_;rintro e w2 ⟨rfl,rfl⟩;clear hpb;obtain ⟨dn,hdn⟩:∃ dn,dn=zy (zW 47 (zm (bts s))):=⟨_,rfl⟩;obtain ⟨nn,hnn⟩:∃ nn,nn=zy (ahead 47 (zm (bts s))):=⟨_,rfl⟩;rw [<- hdn, <- hnn] at HP
               rw [<- hdn] at HNZ HLD;rw [<- hnn] at HLN;have HDN:=ze hdn;have HNN:=ze hnn;clear hdn hnn;go_wp2_with fail;refine (vK a _ (by rw [HA.out];exact HC.out.1) HAS.out).mono ?_;rintro e w2 ⟨v,rfl,hv,hb2⟩;rw [HA.out, <- HNN.out] at hv;have HV:=ze hv;have HKR2:=ze (HKR.out.below hb2 lR);have HWR2:=ze (ext HWR.out hb2);clear hv hb2 r0 r1 r2 r3 r4 r5 f0 f1 f2 f3 f4 f5;go_wp2_with fail;refine (zT false v _ w2 HV.out).mono ?_;rintro e w3 ⟨v3,rfl,hv3,hb3⟩;obtain ⟨x',A',k',c',ng',rfl,_,_,_⟩:=hv3.form;have hb4:=zf w3 (.cells #[.int .i64 x',.slice A' k' c',.bool ng'] 109);have HV3:=ze (hv3.below hb4);have kR3:=(HKR2.out.below hb3 HKR2.out.lt).below hb4 (HKR2.out.below hb3 HKR2.out.lt).lt;have HWR3:=ze (ext (ext HWR2.out hb3) hb4);have HKR3:=ze kR3;have kX:=Blk.new w3 109 #[.int .i64 x',.slice A' k' c',.bool ng'];have HKX:=ze kX;have lgx:w.heap.size<w3.heap.size:=(HKR2.out.below hb3 HKR2.out.lt).lt;clear hb3 hv3 hb4 kR3 kX lR;go_wp2_with fail;generalize hgx:w3.heap.size=gx at HKX lgx |-
               generalize w3.alloc (.cells #[.int .i64 x',.slice A' k' c',.bool ng'] 109)=W3 at HV3 HKR3 HWR3 HKX |-;clear hgx;refine (vK b _ HD.out.1 HBS.out).mono ?_;rintro e w4 ⟨v4,rfl,hv4,hb4⟩;rw [HBB.out, <- HDN.out] at hv4;have HV4:=ze hv4;have HV3a:=ze (HV3.out.below hb4);have HKR4:=ze (HKR3.out.below hb4 HKR3.out.lt);have HKX4:=ze (HKX.out.below hb4 HKX.out.lt);have HWR4:=ze (ext HWR3.out hb4);clear hv4 hb4;go_wp2_with fail;refine (zT false v4 _ w4 HV4.out).mono ?_;rintro e w5 ⟨v5,rfl,hv5,hb5⟩;obtain ⟨y',B',m',d',nh',rfl,_,_,_⟩:=hv5.form;have hb6:=zf w5 (.cells #[.int .i64 y',.slice B' m' d',.bool nh'] 109);have hbb:=ext hb5 hb6;have HV5:=ze (hv5.below hb6);have HV3b:=ze (HV3a.out.below hbb);have HKR5:=ze (HKR4.out.below hbb HKR4.out.lt);have HKX5:=ze (HKX4.out.below hbb HKX4.out.lt);have HWR5:=ze (ext HWR4.out hbb);have HKY5:=ze (Blk.new w5 109 #[.int .i64 y',.slice B' m' d',.bool nh']);have lgy:w.heap.size<w5.heap.size:=(HKR4.out.below hb5 HKR4.out.lt).lt;have x0:=HKX5.out.cell 0;have x1:=HKX5.out.cell 1;have x2:=HKX5.out.cell 2;simp at x0 x1 x2;clear hb5 hb6 hbb hv5
               go_wp2_with fail;generalize hgy:w5.heap.size=gy at HKY5 lgy |-;generalize w5.alloc (.cells #[.int .i64 y',.slice B' m' d',.bool nh'] 109)=W5 at HV5 HV3b HKR5 HKX5 HWR5 HKY5 x0 x1 x2 |-;clear hgy;refine (Z0 _ _ (signed false nn) (signed false dn) _ HV3b.out HV5.out (by have:=HNZ.out;unfold signed;simp;omega) (Nat.le_trans (xz HLN.out) (by omega)) (Nat.le_trans (xz HLD.out) (by omega))).mono ?_;rintro e w6 ⟨v6,rfl,hq,hb7⟩;rw [Zx] at hq;obtain ⟨q,hqq⟩:∃ q,q=xj false nn dn:=⟨_,rfl⟩;rw [<- hqq] at hq HP;obtain ⟨x5,A5,k5,c5,n5,x6,A6,k6,c6,n6,rfl,hq1,hq2⟩:=hq;have hb8:=zf w6 (.cells #[.int .i64 x5,.slice A5 k5 c5,.bool n5,.int .i64 x6,.slice A6 k6 c6,.bool n6] 111);have hbb:=ext hb7 hb8;have HQ1:=ze (hq1.below hb8);have HQ2:=ze (hq2.below hb8);have HV7:=ze (HV5.out.below hbb);have HKR7:=ze (show YJ _ w.heap.size from ⟨_,_,_,_,_,_,_,_,_,_,HKR5.out.below hbb HKR5.out.lt⟩);have HKY7:=ze (HKY5.out.below hbb HKY5.out.lt);have HWR7:=ze (ext HWR5.out hbb);have HKQ:=ze (Blk.new w6 111 #[.int .i64 x5,.slice A5 k5 c5,.bool n5,.int .i64 x6,.slice A6 k6 c6,.bool n6])
               have lgq:w.heap.size<w6.heap.size:=(HKR5.out.below hb7 HKR5.out.lt).lt
               have HLQ:=ze (show len 4294967296 (q.den:Int).natAbs<=67108864 by
                rw [hqq, <- Zx];have h9:=Y0 (zn:=signed false nn) (zd:=signed false dn) (by have:=HNZ.out;unfold signed;simp;omega) (Nat.le_trans (xz HLD.out) (by omega));rw [h9.2.1]
                refine Nat.le_trans (xp (by omega) (Int.natAbs_tdiv_le_natAbs _ _)) (Nat.le_trans (xz HLD.out) (by omega)))
               clear hb7 hb8 hbb hq1 hq2 x0 x1 x2 HKX HKX4 HKX5 HKR3 HKR4 HKR5 HKY5 HV3 HV3a HV3b HV5 HWR HWR2 HWR3 HWR4 HWR5 HKR HKR2 hqq;go_wp2_with fail;generalize hgq:w6.heap.size=gq at HKQ lgq |-;generalize w6.alloc (.cells #[.int .i64 x5,.slice A5 k5 c5,.bool n5,.int .i64 x6,.slice A6 k6 c6,.bool n6] 111)=W7 at HQ1 HQ2 HV7 HKR7 HKY7 HWR7 HKQ |-;clear hgq;have hlq:=HKQ.out.lt;have hly:=HKY7.out.lt;have q0:=HKQ.out.cell 0;have q1:=HKQ.out.cell 1;have q2:=HKQ.out.cell 2;have q3:=HKQ.out.cell 3;have q4:=HKQ.out.cell 4;have q5:=HKQ.out.cell 5;have y0:=HKY7.out.cell 0;have y1:=HKY7.out.cell 1;have y2:=HKY7.out.cell 2;simp at q0 q1 q2 q3 q4 q5 y0 y1 y2;have HRES:=ze (show YJ W7.drew w.heap.size from HKR7.out);have HWX:=ze (show Below w.heap.size w W7.drew from zp HWR7.out 1);have HY1:=ze (show zK W7.drew _ q.num from HQ1.out.below (zH W7 1));have HY2:=ze (show zK W7.drew _ (q.den:Int) from HQ2.out.below (zH W7 1));have HY3:=ze (show zK W7.drew _ (signed false dn) from HV7.out.below (zH W7 1));clear HQ1 HQ2 HV7
               go_region_held3 (fun w' =>w'.cell? ⟨gq,0,none⟩=some (.int .i64 x5)/\w'.cell? ⟨gq,1,none⟩=some (.slice A5 k5 c5)/\w'.cell? ⟨gq,2,none⟩=some (.bool n5)/\w'.cell? ⟨gq,3,none⟩=some (.int .i64 x6)/\w'.cell? ⟨gq,4,none⟩=some (.slice A6 k6 c6)/\w'.cell? ⟨gq,5,none⟩=some (.bool n6)/\
                w'.cell? ⟨gy,0,none⟩=some (.int .i64 y')/\w'.cell? ⟨gy,1,none⟩=some (.slice B' m' d')/\w'.cell? ⟨gy,2,none⟩=some (.bool nh')/\gq<w'.heap.size/\gy<w'.heap.size/\Hid (YJ w' w.heap.size)/\Hid (Below w.heap.size w w')/\Hid (zK w' (.agg #[.int .i64 x5,.slice A5 k5 c5,.bool n5]) q.num)/\Hid (zK w' (.agg #[.int .i64 x6,.slice A6 k6 c6,.bool n6]) (q.den:Int))/\Hid (zK w' (.agg #[.int .i64 y',.slice B' m' d',.bool nh']) (signed false dn)))
                (first
                  | with_reducible exact ⟨by go_keep,by go_keep,by go_keep,by go_keep,by go_keep,by go_keep,by go_keep,by go_keep,by go_keep,by first | (simp;done) | (simp;assumption),by first | (simp;done) | (simp;assumption),HRES,HWX,HY1,HY2,HY3⟩
                  | (go_split_ands;with_reducible exact ⟨zM (by omega) ‹_›,zM (by omega) ‹_›,zM (by omega) ‹_›,zM (by omega) ‹_›,zM (by omega) ‹_›,zM (by omega) ‹_›,zM (by omega) ‹_›,zM (by omega) ‹_›,zM (by omega) ‹_›,Z4 ‹_›,Z4 ‹_›,ZO ‹_›,vX (by omega) ‹_›,vB ‹_› ‹_›,vB ‹_› ‹_›,vB ‹_› ‹_›⟩)
                  | (go_split_ands;with_reducible exact ⟨zk ‹_› ‹_› ‹_›,zk ‹_› ‹_› ‹_›,zk ‹_› ‹_› ‹_›,zk ‹_› ‹_› ‹_›,zk ‹_› ‹_› ‹_›,zk ‹_› ‹_› ‹_›,zk ‹_› ‹_› ‹_›,zk ‹_› ‹_› ‹_›,zk ‹_› ‹_› ‹_›,zR ‹_› ‹_›,zR ‹_› ‹_›,Yi ‹_› ‹_›,zl ‹_› ‹_›,Xn ‹_› ‹_›,Xn ‹_› ‹_›,Xn ‹_› ‹_›⟩)
                  | go_keep)
                (first
                  | (go_at_call 154;refine (zd8 _ _ (q.den:Int) (signed false dn) _ (zO (by go_split_ands;assumption)) (zO (by go_split_ands;assumption)) HLQ.out (Nat.le_trans (xz HLD.out) (by omega))).mono ?_;rintro e wo ⟨rfl,hbo⟩;obtain ⟨xr,Ar,kr,cr,sr,yr,Br,krx,crx,tr,kR⟩:=(Yi (g:=w.heap.size) hbo (by go_split_ands;assumption)).out;have r0:=kR.cell 0;have r1:=kR.cell 1;have r2:=kR.cell 2;have r3:=kR.cell 3;have r4:=kR.cell 4;have r5:=kR.cell 5;have f0:=kR.frozen 0;have f1:=kR.frozen 1;have f2:=kR.frozen 2;have f3:=kR.frozen 3;have f4:=kR.frozen 4;have f5:=kR.frozen 5;simp at r0 r1 r2 r3 r4 r5;have HKR:=ze kR;clear kR))
               all_goals
                go_split_ands;have kR2:=ym (x:=x5) (A:=A5) (k:=k5) (c:=c5) (s:=n5) (y:=x6) (B:=A6) (k' :=k6) (c' :=c6) (t:=n6) HKR.out;have hR1:=zO (by assumption:Hid (zK (World.rat wo w.heap.size x5 A5 k5 c5 n5 x6 A6 k6 c6 n6) (.agg #[.int .i64 x5,.slice A5 k5 c5,.bool n5]) q.num));have hR2:=zO (by assumption:Hid (zK (World.rat wo w.heap.size x5 A5 k5 c5 n5 x6 A6 k6 c6 n6) (.agg #[.int .i64 x6,.slice A6 k6 c6,.bool n6]) (q.den:Int)));have hRW:=zO (by assumption:Hid (Below w.heap.size w (World.rat wo w.heap.size x5 A5 k5 c5 n5 x6 A6 k6 c6 n6)));have e0:=kR2.cell 0;have e1:=kR2.cell 1;have e2:=kR2.cell 2;have e3:=kR2.cell 3;have e4:=kR2.cell 4;have e5:=kR2.cell 5;simp only [World.rat] at e0 e1 e2 e3 e4 e5;simp at e0 e1 e2 e3 e4 e5;go_wp2;refine bodyPost_ret (v:=.tuple #[.agg #[.int .i64 x5,.slice A5 k5 c5,.bool n5,.int .i64 x6,.slice A6 k6 c6,.bool n6],.bool (zF (q.den:Int) (signed false dn) == 0)]) (by simp [results,Tryz.results80,go_sem,e0,e1,e2,e3,e4,e5]) rfl ?_;exact xf.maybe HP.out ⟨_,_,_,_,_,_,_,_,_,_,rfl,hR1,hR2⟩ hRW
   | true=>
     cases za1:(a.toList == [48]) with
     | true=>
       have HP:=ze (zky HN.out.symm (of_decide_eq_true (by rw [<- za];exact za1)));clear za zb zc hpb;go_wp2_with fail;have kR2:=ym (x:=0) (A:=none) (k:=0) (c:=0) (s:=false) (y:=0) (B:=none) (k' :=0) (c' :=0) (t:=false) HKR.out;have e0:=kR2.cell 0;have e1:=kR2.cell 1;have e2:=kR2.cell 2;have e3:=kR2.cell 3;have e4:=kR2.cell 4;have e5:=kR2.cell 5;simp only [World.rat] at e0 e1 e2 e3 e4 e5;simp at e0 e1 e2 e3 e4 e5;refine bodyPost_ret (v:=.tuple #[.agg #[.int .i64 0,.slice none 0 0,.bool false,.int .i64 0,.slice none 0 0,.bool false],.bool false]) (by simp [results,Tryz.results80,go_sem,e0,e1,e2,e3,e4,e5]) rfl ?_;exact xf.no HP.out ⟨_,_,_,_,_,_,_,_,_,_,rfl⟩ (zX (x:=0) (A:=none) (k:=0) (c:=0) (s:=false) (y:=0) (B:=none) (k' :=0) (c' :=0) (t:=false) HWR.out (Nat.le_refl _))
     | false=>
       cases is_ with
       | false=>
         have HP:=ze (Xl HPL.out (fun _ h=>by have:=za.symm.trans za1;rw [decide_eq_true h] at this;cases this) HI.out.symm);have HC:=ze (Zs HPL.out);rw [<- HN.out] at HP;have HAS:=ze (show a.size<=50000 by rw [<- zi,HA.out];exact HC.out.2);clear za zb zc hpb;go_wp2_with fail;refine (vK a _ (by rw [HA.out];exact HC.out.1) HAS.out).mono ?_;rintro e w2 ⟨v,rfl,hv,hb2⟩;rw [HA.out] at hv;have HV:=ze hv;have HKR2:=ze (HKR.out.below hb2 lR);have HWR2:=ze (ext HWR.out hb2);clear hv hb2 r0 r1 r2 r3 r4 r5 f0 f1 f2 f3 f4 f5;go_wp2_with fail;refine (zT true v _ w2 HV.out).mono ?_;rintro e w3 ⟨v3,rfl,hv3,hb3⟩;obtain ⟨x',A',k',c',ng',rfl,_,_,_⟩:=hv3.form;have hb4:=zf w3 (.cells #[.int .i64 x',.slice A' k' c',.bool ng'] 109);have HV3:=ze (hv3.below hb4);have kR3:=(HKR2.out.below hb3 HKR2.out.lt).below hb4 (HKR2.out.below hb3 HKR2.out.lt).lt;have HWR3:=ze (ext (ext HWR2.out hb3) hb4);have HKR3:=ze kR3;have r0:=kR3.cell 0;have r1:=kR3.cell 1;have r2:=kR3.cell 2;have r3:=kR3.cell 3;have r4:=kR3.cell 4;have r5:=kR3.cell 5;have f0:=kR3.frozen 0;have f1:=kR3.frozen 1;have f2:=kR3.frozen 2
         have f3:=kR3.frozen 3;have f4:=kR3.frozen 4;have f5:=kR3.frozen 5;simp at r0 r1 r2 r3 r4 r5;have kX:=Blk.new w3 109 #[.int .i64 x',.slice A' k' c',.bool ng'];have g0:=kX.cell 0;have g1:=kX.cell 1;have g2:=kX.cell 2;simp at g0 g1 g2;clear hb3 hv3 hb4 kR3 kX lR;go_wp2_with fail;have kR4:=ym (x:=x') (A:=A') (k:=k') (c:=c') (s:=ng') (y:=1) (B:=none) (k' :=0) (c' :=0) (t:=false) HKR3.out;have e0:=kR4.cell 0;have e1:=kR4.cell 1;have e2:=kR4.cell 2;have e3:=kR4.cell 3;have e4:=kR4.cell 4;have e5:=kR4.cell 5;simp only [World.rat] at e0 e1 e2 e3 e4 e5;simp at e0 e1 e2 e3 e4 e5;refine bodyPost_ret (v:=.tuple #[.agg #[.int .i64 x',.slice A' k' c',.bool ng',.int .i64 1,.slice none 0 0,.bool false],.bool true]) (by simp [results,Tryz.results80,go_sem,e0,e1,e2,e3,e4,e5]) rfl ?_;refine xf.yes HP.out ⟨_,_,_,_,_,_,_,_,_,_,rfl,?_,?_⟩ (zX HWR3.out (Nat.le_refl _))
         . rw [(ZC _ _).1]
           exact yt HV3.out HKR3.out
         . rw [(ZC _ _).2]
           exact zdv _
       | true=>
         cases hpb2:zQ (bts b) with
         | false=>
           have HP:=ze (vD HI.out.symm (.inl (by have:=HB.out;rw [if_pos rfl] at this;rw [<- this];exact hpb2)));rw [hpb2] at hpb;clear hpb2 za zb zc;go_wp2_with fail;refine (hpb _).mono ?_;rintro e w2 ⟨rfl,rfl⟩;go_wp2_with fail;have kR2:=ym (x:=0) (A:=none) (k:=0) (c:=0) (s:=false) (y:=0) (B:=none) (k' :=0) (c' :=0) (t:=false) HKR.out;have e0:=kR2.cell 0;have e1:=kR2.cell 1;have e2:=kR2.cell 2;have e3:=kR2.cell 3;have e4:=kR2.cell 4;have e5:=kR2.cell 5;simp only [World.rat] at e0 e1 e2 e3 e4 e5;simp at e0 e1 e2 e3 e4 e5;refine bodyPost_ret (v:=.tuple #[.agg #[.int .i64 0,.slice none 0 0,.bool false,.int .i64 0,.slice none 0 0,.bool false],.bool false]) (by simp [results,Tryz.results80,go_sem,e0,e1,e2,e3,e4,e5]) rfl ?_;exact xf.no HP.out ⟨_,_,_,_,_,_,_,_,_,_,rfl⟩ (zX (x:=0) (A:=none) (k:=0) (c:=0) (s:=false) (y:=0) (B:=none) (k' :=0) (c' :=0) (t:=false) HWR.out (Nat.le_refl _))
         | true=>
           have HPB:=ze hpb2;rw [hpb2] at hpb;clear hpb2
           cases zb1:(b.toList == [48]) with
           | true=>
             have HP:=ze (vD HI.out.symm (.inr (.inl (by have:=HB.out;rw [if_pos rfl] at this;rw [<- this];exact of_decide_eq_true (zb.symm.trans zb1)))));clear za zb zc;go_wp2_with fail;refine (hpb _).mono ?_;rintro e w2 ⟨rfl,rfl⟩;go_wp2_with fail;have kR2:=ym (x:=0) (A:=none) (k:=0) (c:=0) (s:=false) (y:=0) (B:=none) (k' :=0) (c' :=0) (t:=false) HKR.out;have e0:=kR2.cell 0;have e1:=kR2.cell 1;have e2:=kR2.cell 2;have e3:=kR2.cell 3;have e4:=kR2.cell 4;have e5:=kR2.cell 5;simp only [World.rat] at e0 e1 e2 e3 e4 e5;simp at e0 e1 e2 e3 e4 e5;refine bodyPost_ret (v:=.tuple #[.agg #[.int .i64 0,.slice none 0 0,.bool false,.int .i64 0,.slice none 0 0,.bool false],.bool false]) (by simp [results,Tryz.results80,go_sem,e0,e1,e2,e3,e4,e5]) rfl ?_;exact xf.no HP.out ⟨_,_,_,_,_,_,_,_,_,_,rfl⟩ (zX (x:=0) (A:=none) (k:=0) (c:=0) (s:=false) (y:=0) (B:=none) (k' :=0) (c' :=0) (t:=false) HWR.out (Nat.le_refl _))
           | false=>
             cases zc1:(b.toList == [49]) with
             | true=>
               have HP:=ze (vD HI.out.symm (.inr (.inr (.inl (by have:=HB.out;rw [if_pos rfl] at this;rw [<- this];exact of_decide_eq_true (zc.symm.trans zc1))))));clear za zb zc;go_wp2_with fail;refine (hpb _).mono ?_;rintro e w2 ⟨rfl,rfl⟩;go_wp2_with fail;have kR2:=ym (x:=0) (A:=none) (k:=0) (c:=0) (s:=false) (y:=0) (B:=none) (k' :=0) (c' :=0) (t:=false) HKR.out;have e0:=kR2.cell 0;have e1:=kR2.cell 1;have e2:=kR2.cell 2;have e3:=kR2.cell 3;have e4:=kR2.cell 4;have e5:=kR2.cell 5;simp only [World.rat] at e0 e1 e2 e3 e4 e5;simp at e0 e1 e2 e3 e4 e5;refine bodyPost_ret (v:=.tuple #[.agg #[.int .i64 0,.slice none 0 0,.bool false,.int .i64 0,.slice none 0 0,.bool false],.bool false]) (by simp [results,Tryz.results80,go_sem,e0,e1,e2,e3,e4,e5]) rfl ?_;exact xf.no HP.out ⟨_,_,_,_,_,_,_,_,_,_,rfl⟩ (zX (x:=0) (A:=none) (k:=0) (c:=0) (s:=false) (y:=0) (B:=none) (k' :=0) (c' :=0) (t:=false) HWR.out (Nat.le_refl _))
             | false=>
               have HBB:=ze (show bts b=zW 47 (zm (bts s)) by rw [HB.out];rfl);have HD:=ze (Zs HPB.out);have HP:=ze (zcn HPL.out (fun _ h=>by have:=za.symm.trans za1;rw [decide_eq_true h] at this;cases this) HI.out.symm (by rw [<- HBB.out];exact HPB.out) (fun h=>by have:=zb.symm.trans zb1;rw [decide_eq_true (HBB.out.trans h)] at this;cases this) (fun h=>by have:=zc.symm.trans zc1;rw [decide_eq_true (HBB.out.trans h)] at this;cases this));have HNZ:=ze (Xf (l:=zW 47 (zm (bts s))) (by rw [<- HBB.out];exact HPB.out) (fun h=>by have:=zb.symm.trans zb1;rw [decide_eq_true (HBB.out.trans h)] at this;cases this));have HLD:=ze (Xj (l:=zW 47 (zm (bts s))) (by rw [<- HBB.out];exact HPB.out));have HLN:=ze (Xj HPL.out);have HC:=ze (Zs HPL.out);rw [<- HN.out] at HP;have HAS:=ze (show a.size<=50000 by rw [<- zi,HA.out];exact HC.out.2);have HBS:=ze (show b.size<=50000 by rw [<- zi];exact HD.out.2);clear za zb zc;go_wp2_with fail;refine (hpb _).mono ?_;rintro e w2 ⟨rfl,rfl⟩;clear hpb;obtain ⟨dn,hdn⟩:∃ dn,dn=zy (zW 47 (zm (bts s))):=⟨_,rfl⟩
               obtain ⟨nn,hnn⟩:∃ nn,nn=zy (ahead 47 (zm (bts s))):=⟨_,rfl⟩;rw [<- hdn, <- hnn] at HP;rw [<- hdn] at HNZ HLD;rw [<- hnn] at HLN;have HDN:=ze hdn;have HNN:=ze hnn;clear hdn hnn;go_wp2_with fail;refine (vK a _ (by rw [HA.out];exact HC.out.1) HAS.out).mono ?_;rintro e w2 ⟨v,rfl,hv,hb2⟩;rw [HA.out, <- HNN.out] at hv;have HV:=ze hv;have HKR2:=ze (HKR.out.below hb2 lR);have HWR2:=ze (ext HWR.out hb2);clear hv hb2 r0 r1 r2 r3 r4 r5 f0 f1 f2 f3 f4 f5;go_wp2_with fail;refine (zT true v _ w2 HV.out).mono ?_;rintro e w3 ⟨v3,rfl,hv3,hb3⟩;obtain ⟨x',A',k',c',ng',rfl,_,_,_⟩:=hv3.form;have hb4:=zf w3 (.cells #[.int .i64 x',.slice A' k' c',.bool ng'] 109);have HV3:=ze (hv3.below hb4);have kR3:=(HKR2.out.below hb3 HKR2.out.lt).below hb4 (HKR2.out.below hb3 HKR2.out.lt).lt;have HWR3:=ze (ext (ext HWR2.out hb3) hb4);have HKR3:=ze kR3;have kX:=Blk.new w3 109 #[.int .i64 x',.slice A' k' c',.bool ng'];have HKX:=ze kX;have lgx:w.heap.size<w3.heap.size:=(HKR2.out.below hb3 HKR2.out.lt).lt;clear hb3 hv3 hb4 kR3 kX lR;go_wp2_with fail;generalize hgx:w3.heap.size=gx at HKX lgx |-
               generalize w3.alloc (.cells #[.int .i64 x',.slice A' k' c',.bool ng'] 109)=W3 at HV3 HKR3 HWR3 HKX |-;clear hgx;refine (vK b _ HD.out.1 HBS.out).mono ?_;rintro e w4 ⟨v4,rfl,hv4,hb4⟩;rw [HBB.out, <- HDN.out] at hv4;have HV4:=ze hv4;have HV3a:=ze (HV3.out.below hb4);have HKR4:=ze (HKR3.out.below hb4 HKR3.out.lt);have HKX4:=ze (HKX.out.below hb4 HKX.out.lt);have HWR4:=ze (ext HWR3.out hb4);clear hv4 hb4;go_wp2_with fail;refine (zT false v4 _ w4 HV4.out).mono ?_;rintro e w5 ⟨v5,rfl,hv5,hb5⟩;obtain ⟨y',B',m',d',nh',rfl,_,_,_⟩:=hv5.form;have hb6:=zf w5 (.cells #[.int .i64 y',.slice B' m' d',.bool nh'] 109);have hbb:=ext hb5 hb6;have HV5:=ze (hv5.below hb6);have HV3b:=ze (HV3a.out.below hbb);have HKR5:=ze (HKR4.out.below hbb HKR4.out.lt);have HKX5:=ze (HKX4.out.below hbb HKX4.out.lt);have HWR5:=ze (ext HWR4.out hbb);have HKY5:=ze (Blk.new w5 109 #[.int .i64 y',.slice B' m' d',.bool nh']);have lgy:w.heap.size<w5.heap.size:=(HKR4.out.below hb5 HKR4.out.lt).lt;have x0:=HKX5.out.cell 0;have x1:=HKX5.out.cell 1;have x2:=HKX5.out.cell 2;simp at x0 x1 x2;clear hb5 hb6 hbb hv5
               go_wp2_with fail;generalize hgy:w5.heap.size=gy at HKY5 lgy |-;generalize w5.alloc (.cells #[.int .i64 y',.slice B' m' d',.bool nh'] 109)=W5 at HV5 HV3b HKR5 HKX5 HWR5 HKY5 x0 x1 x2 |-;clear hgy;refine (Z0 _ _ (signed true nn) (signed false dn) _ HV3b.out HV5.out (by have:=HNZ.out;unfold signed;simp;omega) (Nat.le_trans (xz HLN.out) (by omega)) (Nat.le_trans (xz HLD.out) (by omega))).mono ?_;rintro e w6 ⟨v6,rfl,hq,hb7⟩;rw [Zx] at hq;obtain ⟨q,hqq⟩:∃ q,q=xj true nn dn:=⟨_,rfl⟩;rw [<- hqq] at hq HP;obtain ⟨x5,A5,k5,c5,n5,x6,A6,k6,c6,n6,rfl,hq1,hq2⟩:=hq;have hb8:=zf w6 (.cells #[.int .i64 x5,.slice A5 k5 c5,.bool n5,.int .i64 x6,.slice A6 k6 c6,.bool n6] 111);have hbb:=ext hb7 hb8;have HQ1:=ze (hq1.below hb8);have HQ2:=ze (hq2.below hb8);have HV7:=ze (HV5.out.below hbb);have HKR7:=ze (show YJ _ w.heap.size from ⟨_,_,_,_,_,_,_,_,_,_,HKR5.out.below hbb HKR5.out.lt⟩);have HKY7:=ze (HKY5.out.below hbb HKY5.out.lt);have HWR7:=ze (ext HWR5.out hbb);have HKQ:=ze (Blk.new w6 111 #[.int .i64 x5,.slice A5 k5 c5,.bool n5,.int .i64 x6,.slice A6 k6 c6,.bool n6])
               have lgq:w.heap.size<w6.heap.size:=(HKR5.out.below hb7 HKR5.out.lt).lt
               have HLQ:=ze (show len 4294967296 (q.den:Int).natAbs<=67108864 by
                rw [hqq, <- Zx];have h9:=Y0 (zn:=signed true nn) (zd:=signed false dn) (by have:=HNZ.out;unfold signed;simp;omega) (Nat.le_trans (xz HLD.out) (by omega));rw [h9.2.1]
                refine Nat.le_trans (xp (by omega) (Int.natAbs_tdiv_le_natAbs _ _)) (Nat.le_trans (xz HLD.out) (by omega)))
               clear hb7 hb8 hbb hq1 hq2 x0 x1 x2 HKX HKX4 HKX5 HKR3 HKR4 HKR5 HKY5 HV3 HV3a HV3b HV5 HWR HWR2 HWR3 HWR4 HWR5 HKR HKR2 hqq;go_wp2_with fail;generalize hgq:w6.heap.size=gq at HKQ lgq |-;generalize w6.alloc (.cells #[.int .i64 x5,.slice A5 k5 c5,.bool n5,.int .i64 x6,.slice A6 k6 c6,.bool n6] 111)=W7 at HQ1 HQ2 HV7 HKR7 HKY7 HWR7 HKQ |-;clear hgq;have hlq:=HKQ.out.lt;have hly:=HKY7.out.lt;have q0:=HKQ.out.cell 0;have q1:=HKQ.out.cell 1;have q2:=HKQ.out.cell 2;have q3:=HKQ.out.cell 3;have q4:=HKQ.out.cell 4;have q5:=HKQ.out.cell 5;have y0:=HKY7.out.cell 0;have y1:=HKY7.out.cell 1;have y2:=HKY7.out.cell 2;simp at q0 q1 q2 q3 q4 q5 y0 y1 y2;have HRES:=ze (show YJ W7.drew w.heap.size from HKR7.out);have HWX:=ze (show Below w.heap.size w W7.drew from zp HWR7.out 1);have HY1:=ze (show zK W7.drew _ q.num from HQ1.out.below (zH W7 1));have HY2:=ze (show zK W7.drew _ (q.den:Int) from HQ2.out.below (zH W7 1));have HY3:=ze (show zK W7.drew _ (signed false dn) from HV7.out.below (zH W7 1));clear HQ1 HQ2 HV7
               go_region_held3 (fun w' =>w'.cell? ⟨gq,0,none⟩=some (.int .i64 x5)/\w'.cell? ⟨gq,1,none⟩=some (.slice A5 k5 c5)/\w'.cell? ⟨gq,2,none⟩=some (.bool n5)/\w'.cell? ⟨gq,3,none⟩=some (.int .i64 x6)/\w'.cell? ⟨gq,4,none⟩=some (.slice A6 k6 c6)/\w'.cell? ⟨gq,5,none⟩=some (.bool n6)/\
                w'.cell? ⟨gy,0,none⟩=some (.int .i64 y')/\w'.cell? ⟨gy,1,none⟩=some (.slice B' m' d')/\w'.cell? ⟨gy,2,none⟩=some (.bool nh')/\gq<w'.heap.size/\gy<w'.heap.size/\Hid (YJ w' w.heap.size)/\Hid (Below w.heap.size w w')/\Hid (zK w' (.agg #[.int .i64 x5,.slice A5 k5 c5,.bool n5]) q.num)/\Hid (zK w' (.agg #[.int .i64 x6,.slice A6 k6 c6,.bool n6]) (q.den:Int))/\Hid (zK w' (.agg #[.int .i64 y',.slice B' m' d',.bool nh']) (signed false dn)))
                (first
                  | with_reducible exact ⟨by go_keep,by go_keep,by go_keep,by go_keep,by go_keep,by go_keep,by go_keep,by go_keep,by go_keep,by first | (simp;done) | (simp;assumption),by first | (simp;done) | (simp;assumption),HRES,HWX,HY1,HY2,HY3⟩
                  | (go_split_ands;with_reducible exact ⟨zM (by omega) ‹_›,zM (by omega) ‹_›,zM (by omega) ‹_›,zM (by omega) ‹_›,zM (by omega) ‹_›,zM (by omega) ‹_›,zM (by omega) ‹_›,zM (by omega) ‹_›,zM (by omega) ‹_›,Z4 ‹_›,Z4 ‹_›,ZO ‹_›,vX (by omega) ‹_›,vB ‹_› ‹_›,vB ‹_› ‹_›,vB ‹_› ‹_›⟩)
                  | (go_split_ands;with_reducible exact ⟨zk ‹_› ‹_› ‹_›,zk ‹_› ‹_› ‹_›,zk ‹_› ‹_› ‹_›,zk ‹_› ‹_› ‹_›,zk ‹_› ‹_› ‹_›,zk ‹_› ‹_› ‹_›,zk ‹_› ‹_› ‹_›,zk ‹_› ‹_› ‹_›,zk ‹_› ‹_› ‹_›,zR ‹_› ‹_›,zR ‹_› ‹_›,Yi ‹_› ‹_›,zl ‹_› ‹_›,Xn ‹_› ‹_›,Xn ‹_› ‹_›,Xn ‹_› ‹_›⟩)
                  | go_keep)
                (first
                  | (go_at_call 154;refine (zd8 _ _ (q.den:Int) (signed false dn) _ (zO (by go_split_ands;assumption)) (zO (by go_split_ands;assumption)) HLQ.out (Nat.le_trans (xz HLD.out) (by omega))).mono ?_;rintro e wo ⟨rfl,hbo⟩;obtain ⟨xr,Ar,kr,cr,sr,yr,Br,krx,crx,tr,kR⟩:=(Yi (g:=w.heap.size) hbo (by go_split_ands;assumption)).out;have r0:=kR.cell 0;have r1:=kR.cell 1;have r2:=kR.cell 2;have r3:=kR.cell 3;have r4:=kR.cell 4;have r5:=kR.cell 5;have f0:=kR.frozen 0;have f1:=kR.frozen 1;have f2:=kR.frozen 2;have f3:=kR.frozen 3;have f4:=kR.frozen 4;have f5:=kR.frozen 5;simp at r0 r1 r2 r3 r4 r5;have HKR:=ze kR;clear kR))
               all_goals
                go_split_ands;have kR2:=ym (x:=x5) (A:=A5) (k:=k5) (c:=c5) (s:=n5) (y:=x6) (B:=A6) (k' :=k6) (c' :=c6) (t:=n6) HKR.out;have hR1:=zO (by assumption:Hid (zK (World.rat wo w.heap.size x5 A5 k5 c5 n5 x6 A6 k6 c6 n6) (.agg #[.int .i64 x5,.slice A5 k5 c5,.bool n5]) q.num));have hR2:=zO (by assumption:Hid (zK (World.rat wo w.heap.size x5 A5 k5 c5 n5 x6 A6 k6 c6 n6) (.agg #[.int .i64 x6,.slice A6 k6 c6,.bool n6]) (q.den:Int)));have hRW:=zO (by assumption:Hid (Below w.heap.size w (World.rat wo w.heap.size x5 A5 k5 c5 n5 x6 A6 k6 c6 n6)));have e0:=kR2.cell 0;have e1:=kR2.cell 1;have e2:=kR2.cell 2;have e3:=kR2.cell 3;have e4:=kR2.cell 4;have e5:=kR2.cell 5;simp only [World.rat] at e0 e1 e2 e3 e4 e5;simp at e0 e1 e2 e3 e4 e5;go_wp2;refine bodyPost_ret (v:=.tuple #[.agg #[.int .i64 x5,.slice A5 k5 c5,.bool n5,.int .i64 x6,.slice A6 k6 c6,.bool n6],.bool (zF (q.den:Int) (signed false dn) == 0)]) (by simp [results,Tryz.results80,go_sem,e0,e1,e2,e3,e4,e5]) rfl ?_;exact xf.maybe HP.out ⟨_,_,_,_,_,_,_,_,_,_,rfl,hR1,hR2⟩ hRW
def zod (w:World) (la lb:List UInt8) (e:Ending) (w' :World):Prop:=
 ∃ v1 v2 b,e= .returned (.tuple #[v1,v2,.bool b])/\znk v1/\znk v2/\b=((zq la).isSome && (zq lb).isSome)/\(∀ q,zq la=some q->yw w' v1 q)/\(∀ q,zq lb=some q->yw w' v2 q)/\Below w.heap.size w w'
theorem yw.stored {W:World} {g:Nat} {v:Value} {q:Rat} {x y x0 y0:Int} {A B A0 B0:Option Addr} {k c k' c' k0 c0 k1 c1:Nat} {s t s0 t0:Bool} {t' :TypeId} (h:yw W v q)
 (hk:Blk W g t' #[.int .i64 x0,.slice A0 k0 c0,.bool s0,.int .i64 y0,.slice B0 k1 c1,.bool t0]):yw (World.rat W g x A k c s y B k' c' t) v q:=by
 obtain ⟨x5,A5,k5,c5,s5,y5,B5,k6,c6,t5,rfl,h1,h2⟩:=h
 exact ⟨_,_,_,_,_,_,_,_,_,_,rfl,yt h1 hk,yt h2 hk⟩
theorem znf (a b:ByteArray) (w:World) (ha:a.size<=1073741824) (hb:b.size<=1073741824):
 Calls Tryz.prog 106 #[.string a,.string b] w (zod w (bts a) (bts b)):=by
 have hr1:=fun w=>Zy a w ha
 have hr2:=fun w=>Zy b w hb
 have kA:=(Blk.new w 111 #[.int .i64 0,.slice none 0 0,.bool false,.int .i64 0,.slice none 0 0,.bool false]).alloc (.cells #[.int .i64 0,.slice none 0 0,.bool false,.int .i64 0,.slice none 0 0,.bool false] 111)
 have kB:=Blk.new (w.alloc (.cells #[.int .i64 0,.slice none 0 0,.bool false,.int .i64 0,.slice none 0 0,.bool false] 111)) 111 #[.int .i64 0,.slice none 0 0,.bool false,.int .i64 0,.slice none 0 0,.bool false]
 have hW:=ext (zf w (.cells #[.int .i64 0,.slice none 0 0,.bool false,.int .i64 0,.slice none 0 0,.bool false] 111)) (zf _ (.cells #[.int .i64 0,.slice none 0 0,.bool false,.int .i64 0,.slice none 0 0,.bool false] 111))
 simp only [World.size_alloc] at kB
 go_enter Tryz.func106,Tryz.ntmps106
 go_wp2_with fail
 generalize (w.alloc (.cells #[.int .i64 0,.slice none 0 0,.bool false,.int .i64 0,.slice none 0 0,.bool false] 111)).alloc (.cells #[.int .i64 0,.slice none 0 0,.bool false,.int .i64 0,.slice none 0 0,.bool false] 111)=W at kA kB hW |-
 refine (hr1 _).mono ?_
 rintro e w1 ⟨v1,b1,rfl,⟨x1,A1,k1,c1,s1,y1,B1,k1x,c1x,t1,rfl⟩,hb1,hq1,hbl1⟩
 have kA1:=kA.below hbl1 kA.lt
 have kB1:=kB.below hbl1 kB.lt
 have a0:=kA1.cell 0
 have a1:=kA1.cell 1
 have a2:=kA1.cell 2
 have a3:=kA1.cell 3
 have a4:=kA1.cell 4
 have a5:=kA1.cell 5
 have f0:=kA1.frozen 0
 have f1:=kA1.frozen 1
 have f2:=kA1.frozen 2
 have f3:=kA1.frozen 3
 have f4:=kA1.frozen 4
 have f5:=kA1.frozen 5
 simp at a0 a1 a2 a3 a4 a5
 have HA1:=ze (ym (x:=x1) (A:=A1) (k:=k1) (c:=c1) (s:=s1) (y:=y1) (B:=B1) (k' :=k1x) (c' :=c1x) (t:=t1) kA1)
 have HB1:=ze (Xp (g' :=w.heap.size) (x:=x1) (A:=A1) (k:=k1) (c:=c1) (s:=s1) (y:=y1) (B:=B1) (k' :=k1x) (c' :=c1x) (t:=t1) kB1 (by omega))
 have HQ1:=ze (show ∀ q,zq (bts a)=some q->yw (World.rat w1 w.heap.size x1 A1 k1 c1 s1 y1 B1 k1x c1x t1) _ q from fun q hq=>(hq1 q hq).stored kA1)
 have HW1:=ze (zX (g:=w.heap.size) (x:=x1) (A:=A1) (k:=k1) (c:=c1) (s:=s1) (y:=y1) (B:=B1) (k' :=k1x) (c' :=c1x) (t:=t1) (ext hW hbl1) (Nat.le_refl _))
 have HE1:=ze hb1
 clear kA kB hW hb1 hq1 hbl1 kA1 kB1 hr1
 simp only [World.rat] at HA1 HB1 HQ1 HW1
 go_wp2_with fail
 generalize (((((w1.setCell { block:=w.heap.size,off:=0 } (.int .i64 x1)).setCell { block:=w.heap.size,off:=1 } (.slice A1 k1 c1)).setCell { block:=w.heap.size,off:=2 } (.bool s1)).setCell { block:=w.heap.size,off:=3 } (.int .i64 y1)).setCell { block:=w.heap.size,off:=4 } (.slice B1 k1x c1x)).setCell { block:=w.heap.size,off:=5 } (.bool t1)=W1 at HA1 HB1 HQ1 HW1 |-
 clear a0 a1 a2 a3 a4 a5 f0 f1 f2 f3 f4 f5
 refine (hr2 _).mono ?_
 rintro e w2 ⟨v2,b2,rfl,⟨x2,A2,k2,c2,s2,y2,B2,k2x,c2x,t2,rfl⟩,hb2,hq2,hbl2⟩
 have kA2:=HA1.out.below hbl2 HA1.out.lt
 have kB2:=HB1.out.below hbl2 HB1.out.lt
 have a0:=kB2.cell 0
 have a1:=kB2.cell 1
 have a2:=kB2.cell 2
 have a3:=kB2.cell 3
 have a4:=kB2.cell 4
 have a5:=kB2.cell 5
 have f0:=kB2.frozen 0
 have f1:=kB2.frozen 1
 have f2:=kB2.frozen 2
 have f3:=kB2.frozen 3
 have f4:=kB2.frozen 4
 have f5:=kB2.frozen 5
 simp at a0 a1 a2 a3 a4 a5
 have HB2:=ze (ym (x:=x2) (A:=A2) (k:=k2) (c:=c2) (s:=s2) (y:=y2) (B:=B2) (k' :=k2x) (c' :=c2x) (t:=t2) kB2)
 have HA2:=ze (Xp (g' :=w.heap.size+1) (x:=x2) (A:=A2) (k:=k2) (c:=c2) (s:=s2) (y:=y2) (B:=B2) (k' :=k2x) (c' :=c2x) (t:=t2) kA2 (by omega))
 have HQ1' :=ze (show ∀ q,zq (bts a)=some q->yw (World.rat w2 (w.heap.size+1) x2 A2 k2 c2 s2 y2 B2 k2x c2x t2) _ q from fun q hq=>((HQ1.out q hq).below hbl2).stored kB2)
 have HQ2:=ze (show ∀ q,zq (bts b)=some q->yw (World.rat w2 (w.heap.size+1) x2 A2 k2 c2 s2 y2 B2 k2x c2x t2) _ q from fun q hq=>(hq2 q hq).stored kB2)
 have HW2:=ze (zX (g:=w.heap.size+1) (x:=x2) (A:=A2) (k:=k2) (c:=c2) (s:=s2) (y:=y2) (B:=B2) (k' :=k2x) (c' :=c2x) (t:=t2) (ext HW1.out hbl2) (by omega))
 have HE2:=ze hb2
 clear hb2 hq2 hbl2 kA2 kB2 hr2 HA1 HB1 HQ1 HW1
 simp only [World.rat] at HA2 HB2 HQ1' HQ2 HW2
 go_wp2_with fail
 generalize (((((w2.setCell { block:=w.heap.size+1,off:=0 } (.int .i64 x2)).setCell { block:=w.heap.size+1,off:=1 } (.slice A2 k2 c2)).setCell { block:=w.heap.size+1,off:=2 } (.bool s2)).setCell { block:=w.heap.size+1,off:=3 } (.int .i64 y2)).setCell { block:=w.heap.size+1,off:=4 } (.slice B2 k2x c2x)).setCell { block:=w.heap.size+1,off:=5 } (.bool t2)=W2 at HA2 HB2 HQ1' HQ2 HW2 |-
 clear a0 a1 a2 a3 a4 a5 f0 f1 f2 f3 f4 f5
 have a0:=HA2.out.cell 0
 have a1:=HA2.out.cell 1
 have a2:=HA2.out.cell 2
 have a3:=HA2.out.cell 3
 have a4:=HA2.out.cell 4
 have a5:=HA2.out.cell 5
 have f0:=HA2.out.frozen 0
 have f1:=HA2.out.frozen 1
 have f2:=HA2.out.frozen 2
 have f3:=HA2.out.frozen 3
 have f4:=HA2.out.frozen 4
 have f5:=HA2.out.frozen 5
 have d0:=HB2.out.cell 0
 have d1:=HB2.out.cell 1
 have d2:=HB2.out.cell 2
 have d3:=HB2.out.cell 3
 have d4:=HB2.out.cell 4
 have d5:=HB2.out.cell 5
 have g0:=HB2.out.frozen 0
 have g1:=HB2.out.frozen 1
 have g2:=HB2.out.frozen 2
 have g3:=HB2.out.frozen 3
 have g4:=HB2.out.frozen 4
 have g5:=HB2.out.frozen 5
 simp at a0 a1 a2 a3 a4 a5 d0 d1 d2 d3 d4 d5
 cases b1 with
 | true=>
   have HR:=ze (show b2=((zq (bts a)).isSome && (zq (bts b)).isSome) by rw [<- HE1.out, <- HE2.out];rfl)
   go_region
   go_wp2;have kA3:=ym (x:=x1) (A:=A1) (k:=k1) (c:=c1) (s:=s1) (y:=y1) (B:=B1) (k' :=k1x) (c' :=c1x) (t:=t1) HA2.out;have kB3:=Xp (g' :=w.heap.size) (x:=x1) (A:=A1) (k:=k1) (c:=c1) (s:=s1) (y:=y1) (B:=B1) (k' :=k1x) (c' :=c1x) (t:=t1) HB2.out (by omega);have kA4:=Xp (g' :=w.heap.size+1) (x:=x2) (A:=A2) (k:=k2) (c:=c2) (s:=s2) (y:=y2) (B:=B2) (k' :=k2x) (c' :=c2x) (t:=t2) kA3 (by omega);have kB4:=ym (x:=x2) (A:=A2) (k:=k2) (c:=c2) (s:=s2) (y:=y2) (B:=B2) (k' :=k2x) (c' :=c2x) (t:=t2) kB3;have e0:=kA4.cell 0;have e1:=kA4.cell 1;have e2:=kA4.cell 2;have e3:=kA4.cell 3;have e4:=kA4.cell 4;have e5:=kA4.cell 5;have h0:=kB4.cell 0;have h1:=kB4.cell 1;have h2:=kB4.cell 2;have h3:=kB4.cell 3;have h4:=kB4.cell 4;have h5:=kB4.cell 5;simp only [World.rat] at e0 e1 e2 e3 e4 e5 h0 h1 h2 h3 h4 h5;simp at e0 e1 e2 e3 e4 e5 h0 h1 h2 h3 h4 h5
   refine bodyPost_ret (v:=.tuple #[.agg #[.int .i64 x1,.slice A1 k1 c1,.bool s1,.int .i64 y1,.slice B1 k1x c1x,.bool t1],.agg #[.int .i64 x2,.slice A2 k2 c2,.bool s2,.int .i64 y2,.slice B2 k2x c2x,.bool t2],.bool b2]) (by simp [results,Tryz.results106,go_sem,e0,e1,e2,e3,e4,e5,h0,h1,h2,h3,h4,h5]) rfl ?_;have hd:=zH (World.rat (World.rat W2 w.heap.size x1 A1 k1 c1 s1 y1 B1 k1x c1x t1) (w.heap.size+1) x2 A2 k2 c2 s2 y2 B2 k2x c2x t2) 1;exact ⟨_,_,_,rfl,⟨_,_,_,_,_,_,_,_,_,_,rfl⟩,⟨_,_,_,_,_,_,_,_,_,_,rfl⟩,HR.out,fun q hq=>(((HQ1'.out q hq).stored HA2.out).stored kB3).below hd,fun q hq=>(((HQ2.out q hq).stored HA2.out).stored kB3).below hd,zp (zX (zX HW2.out (Nat.le_refl _)) (by omega)) 1⟩
 | false=>
   have HR:=ze (show false=((zq (bts a)).isSome && (zq (bts b)).isSome) by rw [<- HE1.out];rfl)
   go_region
   go_wp2;have kA3:=ym (x:=x1) (A:=A1) (k:=k1) (c:=c1) (s:=s1) (y:=y1) (B:=B1) (k' :=k1x) (c' :=c1x) (t:=t1) HA2.out;have kB3:=Xp (g' :=w.heap.size) (x:=x1) (A:=A1) (k:=k1) (c:=c1) (s:=s1) (y:=y1) (B:=B1) (k' :=k1x) (c' :=c1x) (t:=t1) HB2.out (by omega);have kA4:=Xp (g' :=w.heap.size+1) (x:=x2) (A:=A2) (k:=k2) (c:=c2) (s:=s2) (y:=y2) (B:=B2) (k' :=k2x) (c' :=c2x) (t:=t2) kA3 (by omega);have kB4:=ym (x:=x2) (A:=A2) (k:=k2) (c:=c2) (s:=s2) (y:=y2) (B:=B2) (k' :=k2x) (c' :=c2x) (t:=t2) kB3;have e0:=kA4.cell 0;have e1:=kA4.cell 1;have e2:=kA4.cell 2;have e3:=kA4.cell 3;have e4:=kA4.cell 4;have e5:=kA4.cell 5;have h0:=kB4.cell 0;have h1:=kB4.cell 1;have h2:=kB4.cell 2;have h3:=kB4.cell 3;have h4:=kB4.cell 4;have h5:=kB4.cell 5;simp only [World.rat] at e0 e1 e2 e3 e4 e5 h0 h1 h2 h3 h4 h5;simp at e0 e1 e2 e3 e4 e5 h0 h1 h2 h3 h4 h5
   refine bodyPost_ret (v:=.tuple #[.agg #[.int .i64 x1,.slice A1 k1 c1,.bool s1,.int .i64 y1,.slice B1 k1x c1x,.bool t1],.agg #[.int .i64 x2,.slice A2 k2 c2,.bool s2,.int .i64 y2,.slice B2 k2x c2x,.bool t2],.bool false]) (by simp [results,Tryz.results106,go_sem,e0,e1,e2,e3,e4,e5,h0,h1,h2,h3,h4,h5]) rfl ?_;have hd:=zH (World.rat (World.rat W2 w.heap.size x1 A1 k1 c1 s1 y1 B1 k1x c1x t1) (w.heap.size+1) x2 A2 k2 c2 s2 y2 B2 k2x c2x t2) 1;exact ⟨_,_,_,rfl,⟨_,_,_,_,_,_,_,_,_,_,rfl⟩,⟨_,_,_,_,_,_,_,_,_,_,rfl⟩,HR.out,fun q hq=>(((HQ1'.out q hq).stored HA2.out).stored kB3).below hd,fun q hq=>(((HQ2.out q hq).stored HA2.out).stored kB3).below hd,zp (zX (zX HW2.out (Nat.le_refl _)) (by omega)) 1⟩
end Go.Proofs.YtnpbflhjglkokaaGreatDoor
namespace Go.Proofs.YtnpbflhjglkokaaGreatDoor
open Go.RowKit Go.Deep
def op2 (f:Rat->Rat->Rat) (la lb:List UInt8):List UInt8×Int:=match zq la,zq lb with
 | some x,some y=>YY (f x y)
 | _,_=>([],4)
theorem zn2 {f:Rat->Rat->Rat} {la lb:List UInt8} (h:((zq la).isSome && (zq lb).isSome)=false):op2 f la lb=([],4):=by
 unfold op2
 cases ha:zq la with
 | none=>rfl
 | some x=>
   cases hb:zq lb with
   | none=>rfl
   | some y=>rw [ha,hb] at h;cases h
theorem zj2 {la lb:List UInt8} (h:((zq la).isSome && (zq lb).isSome)=true):∃ x y,zq la=some x/\zq lb=some y:=by
 cases ha:zq la with
 | none=>rw [ha] at h;cases h
 | some x=>
   cases hb:zq lb with
   | none=>rw [ha,hb] at h;cases h
   | some y=>exact ⟨x,y,rfl,rfl⟩
theorem zlx {f:Rat->Rat->Rat} {la lb:List UInt8} {x y:Rat} (ha:zq la=some x) (hb:zq lb=some y):op2 f la lb=YY (f x y):=by unfold op2;rw [ha,hb]
theorem zc8 {l:List UInt8} {q:Rat} (h:zq l=some q):ZI 50000 q:=(yF.1 h).2.len
theorem ZI.more {M K:Nat} {q:Rat} (h:ZI M q) (hM:M<=K):ZI K q:=⟨Nat.le_trans h.1 hM,Nat.le_trans h.2 hM⟩
theorem ZI.of_dz {e:Nat} {q:Rat} (h:Dz e q):ZI (e+1) q:=(Dz.short h (Nat.lt_succ_self e)).len
theorem zjr {l:List UInt8} {q:Rat} (h:zq l=some q):Dz 50000 q:=(yF.1 h).2.sz
theorem zf7 (a b:ByteArray) (w:World) (ha:a.size<=1073741824) (hb:b.size<=1073741824):
 Calls Tryz.prog 103 #[.string a,.string b,.func (.func 120) #[] #[]] w (zlq w (op2 (· + ·) (bts a) (bts b))):=by
 have ht:=fun w=>znf a b w ha hb
 go_enter Tryz.func103,Tryz.ntmps103
 go_wp2_with fail
 refine (ht _).mono ?_
 rintro e w1 ⟨v1,v2,bb,rfl,⟨x1,A1,k1,c1,s1,y1,B1,k1x,c1x,t1,rfl⟩,⟨x2,A2,k2,c2,s2,y2,B2,k2x,c2x,t2,rfl⟩,hbb,hq1,hq2,hW⟩
 have hb1:=ext (zf w1 (.cells #[.int .i64 x1,.slice A1 k1 c1,.bool s1,.int .i64 y1,.slice B1 k1x c1x,.bool t1] 111)) (zf _ (.cells #[.int .i64 x2,.slice A2 k2 c2,.bool s2,.int .i64 y2,.slice B2 k2x c2x,.bool t2] 111))
 have HQ1:=ze (show ∀ q,zq (bts a)=some q->yw _ _ q from fun q hq=>(hq1 q hq).below hb1)
 have HQ2:=ze (show ∀ q,zq (bts b)=some q->yw _ _ q from fun q hq=>(hq2 q hq).below hb1)
 have HW:=ze (ext hW hb1)
 clear hq1 hq2 hW hb1 ht
 cases bb with
 | false=>
   have HR:=ze (zn2 (f:=(· + ·)) hbb.symm);clear hbb;go_wp2_with fail;go_ret2;rw [HR.out];exact ⟨rfl,HW.out⟩
 | true=>
   obtain ⟨x,y,hx,hy⟩:=zj2 hbb.symm;have HR:=ze (zlx (f:=(· + ·)) hx hy);have HX:=ze hx;have HY:=ze hy;clear hbb hx hy;go_wp2_with fail;refine (Vn _ _ x y _ (HQ1.out x HX.out) (HQ2.out y HY.out) ((zc8 HX.out).more (by omega)) ((zc8 HY.out).more (by omega))).mono ?_;rintro e w2 ⟨v,rfl,hv,hb2⟩;have HL:=ze (show ZI 67108864 ((· + ·) x y) from (ZI.of_dz (e:=100001) (Dz.add (zjr HX.out) (zjr HY.out) (by omega))).more (by omega));have HV:=ze hv;have HW2:=ze (ext HW.out hb2);clear hv hb2;go_wp2_with fail;refine (zjm v _ w2 HV.out HL.out).mono ?_;rintro e w3 ⟨rfl,hb3⟩;have HB3:=ze hb3;clear hb3;go_wp2_with fail;go_ret2;rw [HR.out];exact ⟨rfl,ext HW2.out HB3.out⟩
theorem zl6 (a b:ByteArray) (w:World) (ha:a.size<=1073741824) (hb:b.size<=1073741824):
 Calls Tryz.prog 50 #[.string a,.string b] w (zlq w (op2 (· + ·) (bts a) (bts b))):=by
 have hr:=fun w=>zf7 a b w ha hb
 go_enter Tryz.func50,Tryz.ntmps50
 go_wp2_with fail
 refine (hr _).mono ?_
 rintro e w1 ⟨rfl,hb1⟩
 have HB1:=ze hb1
 clear hb1 hr
 go_wp2_with fail
 go_ret2
 exact ⟨rfl,HB1.out⟩
end Go.Proofs.YtnpbflhjglkokaaGreatDoor
namespace Go.Proofs.YtnpbflhjglkokaaGreatDoor
open Go.RowKit Go.Deep
attribute [local go_sem ↓] Go.wp_at_zero Go.wp_at_succ
def flr (q:Rat):Rat:=((q.num / (q.den:Int):Int):Rat)
theorem zj5 (z d:Int) (hd:0<d):(if zF (z.tmod d) 0<0 then z.tdiv d - 1 else z.tdiv d)=z / d:=by
 have h1:zF (z.tmod d) 0<0↔z.tmod d<0:=by
  unfold zF
  constructor
  . intro h
    split at h
    . assumption
    . split at h<;>omega
  . intro h;rw [if_pos h];decide
 have h2:=Int.mul_tdiv_add_tmod z d
 have h3:=Int.mul_ediv_add_emod z d
 have h4:=Int.emod_nonneg z (show d≠0 by omega)
 have h5:=Int.emod_lt_of_pos z hd
 have h6:z.tmod d<d:=Int.tmod_lt_of_pos z hd
 have h7: -d<z.tmod d:=by
  have:=Int.tmod_lt_of_pos (-z) hd
  rw [Int.neg_tmod] at this;omega
 by_cases h:z.tmod d<0
 . rw [if_pos (h1.2 h)]
   refine (Int.ediv_eq_iff_of_pos hd).2 ?_ |>.symm;rw [Int.sub_mul,Int.mul_comm]
   omega
 . rw [if_neg (fun e=>h (h1.1 e))]
   refine (Int.ediv_eq_iff_of_pos hd).2 ?_ |>.symm;rw [Int.mul_comm]
   omega
theorem zib (va:Value) (q:Rat) (w:World) (ha:yw w va q) (hl:ZI 33554432 q):
 Calls Tryz.prog 85 #[va] w (vU w (q.num / (q.den:Int))):=by
 obtain ⟨x1,A1,k1,c1,s1,y1,B1,k1x,c1x,t1,rfl,ha1,ha2⟩:=ha
 have hd:(0:Int)<q.den:=by have:=q.den_pos;omega
 have HF:=ze (zj5 q.num q.den hd)
 obtain ⟨z,hz⟩:∃ z,q.num / (q.den:Int)=z:=⟨_,rfl⟩
 rw [hz] at HF |-
 have HD:=ze (show (q.den:Int)≠0 by omega)
 have HL1:=ze hl.1
 have HL2:=ze hl.2
 have hW:=ext (zf w (.cells #[.int .i64 x1,.slice A1 k1 c1,.bool s1,.int .i64 y1,.slice B1 k1x c1x,.bool t1] 111)) (zf _ (.cells #[.int .i64 0,.slice none 0 0,.bool false] 109))
 have HAN:=ze (ha1.below hW)
 have HAD:=ze (ha2.below hW)
 have HW:=ze hW
 have kC:=Blk.new (w.alloc (.cells #[.int .i64 x1,.slice A1 k1 c1,.bool s1,.int .i64 y1,.slice B1 k1x c1x,.bool t1] 111)) 109 #[.int .i64 0,.slice none 0 0,.bool false]
 simp only [World.size_alloc] at kC
 have HC:=ze kC
 clear hd hl hW ha1 ha2 hz kC
 go_enter Tryz.func85,Tryz.ntmps85
 go_wp2_with fail
 refine (YL _ _ q.num q.den _ HAN.out HAD.out HD.out HL1.out HL2.out).mono ?_
 rintro e w1 ⟨v,v',rfl,hv,hv',hb1⟩
 obtain ⟨x2,A2,k2,c2,s2,rfl,_,_,_⟩:=hv.form
 obtain ⟨x3,A3,k3,c3,s3,rfl,_,_,_⟩:=hv'.form
 have hne:w.heap.size+1<w1.heap.size:=(HC.out.below hb1 HC.out.lt).lt
 have HN:=ze hne
 have hx:=ext (zf w1 (.cells #[.int .i64 x2,.slice A2 k2 c2,.bool s2] 109)) (zf _ (.cells #[.int .i64 x3,.slice A3 k3 c3,.bool s3] 109))
 have HQ:=ze (hv.below hx)
 have HR:=ze (hv'.below hx)
 replace HW:=ze (ext (ext HW.out hb1) hx)
 replace HC:=ze ((HC.out.below hb1 HC.out.lt).below hx (HC.out.below hb1 HC.out.lt).lt)
 clear hv hv' hb1 hx HAN HAD hne
 go_wp2_with fail
 refine (Z2 _ (q.num.tmod (q.den:Int)) _ HR.out).mono ?_
 rintro e w2 ⟨rfl,hb2⟩
 replace HQ:=ze (HQ.out.below hb2)
 replace HW:=eb_ HW hb2
 have kK:=((Blk.new w1 109 #[.int .i64 x2,.slice A2 k2 c2,.bool s2]).alloc (.cells #[.int .i64 x3,.slice A3 k3 c3,.bool s3] 109))
 have kK2:=kK.below hb2 kK.lt
 have kC2:=HC.out.below hb2 HC.out.lt
 have HK:=ze kK2
 replace HC:=ze kC2
 clear kK kK2 kC2 hb2 HR
 generalize w1.heap.size=g at HK HN |-
 have c0:=HK.out.cell 0
 have c1:=HK.out.cell 1
 have c2' :=HK.out.cell 2
 have f0:=HK.out.frozen 0
 have f1:=HK.out.frozen 1
 have f2:=HK.out.frozen 2
 have d0:=HC.out.cell 0
 have d1:=HC.out.cell 1
 have d2:=HC.out.cell 2
 have g0:=HC.out.frozen 0
 have g1:=HC.out.frozen 1
 have g2:=HC.out.frozen 2
 simp at c0 c1 c2' d0 d1 d2
 generalize hcm:zF (q.num.tmod (q.den:Int)) 0=cm at HF |-
 clear hcm
 by_cases h0:cm<0
 . have hF:q.num.tdiv (q.den:Int) - 1=z:=by have:=HF.out;rw [if_pos h0] at this;exact this
   have HFF:=ze hF;clear HF hF;go_wp2_with fail;have hone:zK w2 (.agg #[.int .i64 1,.slice none 0 0,.bool false]) 1:=.inl ⟨1,false,rfl,by omega,by omega,rfl⟩
   have hl3:len 4294967296 (q.num.tdiv (q.den:Int)).natAbs<=67108864:=by
    refine Nat.le_trans (xp (by omega) ?_) (Nat.le_trans HL1.out (by omega));rw [Int.natAbs_tdiv];exact Nat.div_le_self _ _
   refine (Xt _ _ (q.num.tdiv (q.den:Int)) 1 w2 HQ.out hone hl3 (Nat.le_trans (xD (by decide)) (by omega))).mono ?_;rintro e w3 ⟨v4,rfl,hv4,hb3⟩;obtain ⟨x4,A4,k4,c4,s4,rfl,_,_,_⟩:=hv4.form;have kK3:=HK.out.below hb3 HK.out.lt;have kC3:=HC.out.below hb3 HC.out.lt;have kK4:=zU (x:=x4) (A:=A4) (k:=k4) (c:=c4) (ng:=s4) kK3;have kC4:=xo (x:=x4) (A:=A4) (k:=k4) (c:=c4) (ng:=s4) kC3 (Nat.ne_of_lt HN.out);have hq4:=zv (x:=x4) (A:=A4) (k:=k4) (c:=c4) (ng:=s4) hv4 kK3;have hw4:=zG (x:=x4) (A:=A4) (k:=k4) (c:=c4) (ng:=s4) (ext HW.out hb3) (g:=g) (by have:=HN.out;omega);have HK3:=ze kK3;have HK4:=ze kK4;have HQ4:=ze hq4;replace HC:=ze kC4;replace HW:=ze hw4;clear c0 c1 c2' f0 f1 f2 d0 d1 d2 g0 g1 g2 kK3 kC3 kK4 kC4 hq4 hw4 hb3 hone hl3 hv4 HK HQ HL1 HL2;have c0:=HK3.out.cell 0;have c1:=HK3.out.cell 1;have c2' :=HK3.out.cell 2;have f0:=HK3.out.frozen 0;have f1:=HK3.out.frozen 1;have f2:=HK3.out.frozen 2;simp at c0 c1 c2'
   go_upto_region 4 with fail
   obtain ⟨W4,hW4⟩:∃ x,x=World.num w3 g x4 A4 k4 c4 s4:=⟨_,rfl⟩;rw [<- hW4] at HK4 HC HQ4 HW;simp only [World.num] at hW4;rw [<- hW4];have d0:=HK4.out.cell 0;have d1:=HK4.out.cell 1;have d2:=HK4.out.cell 2;have e0:=HC.out.cell 0;have e1:=HC.out.cell 1;have e2:=HC.out.cell 2;have g0:=HC.out.frozen 0;have g1:=HC.out.frozen 1;have g2:=HC.out.frozen 2;simp at d0 d1 d2 e0 e1 e2;clear hW4 c0 c1 c2' f0 f1 f2;go_wp2_with fail;have kD:=zU (x:=x4) (A:=A4) (k:=k4) (c:=c4) (ng:=s4) HC.out;clear e0 e1 e2;have e0:=kD.cell 0;have e1:=kD.cell 1;have e2:=kD.cell 2;simp only [World.num] at e0 e1 e2;simp at e0 e1 e2;refine bodyPost_ret (v:=.agg #[.int .i64 x4,.slice A4 k4 c4,.bool s4]) (by simp [results,Tryz.results85,go_sem,e0,e1,e2]) rfl ?_;rw [<- HFF.out];exact ⟨_,rfl,zv HQ4.out HC.out,zG HW.out (by omega)⟩
 . have hF:q.num.tdiv (q.den:Int)=z:=by have:=HF.out;rw [if_neg h0] at this;exact this
   have HFF:=ze hF;clear HF hF;go_wp2_with fail;have kD:=zU (x:=x2) (A:=A2) (k:=k2) (c:=c2) (ng:=s2) HC.out;have e0:=kD.cell 0;have e1:=kD.cell 1;have e2:=kD.cell 2;simp only [World.num] at e0 e1 e2;simp at e0 e1 e2;refine bodyPost_ret (v:=.agg #[.int .i64 x2,.slice A2 k2 c2,.bool s2]) (by simp [results,Tryz.results85,go_sem,e0,e1,e2]) rfl ?_;rw [<- HFF.out];exact ⟨_,rfl,zv HQ.out HC.out,zG HW.out (by omega)⟩
theorem vr.stored {W:World} {g:Nat} {v:Value} {q:Rat} {t' :TypeId} {ng n0:Bool} {A B A0 B0:Option Addr} {n c m d k0 c0 k1 c1:Nat} (h:vr W v q)
 (hk:Blk W g t' #[.bool n0,.slice A0 k0 c0,.slice B0 k1 c1]):vr (World.ref W g ng A n c B m d) v q:=by
 obtain ⟨g5,A5,n5,c5,B5,m5,d5,rfl,h0,h1,h2⟩:=h
 exact ⟨_,_,_,_,_,_,_,rfl,h0,yn h1 hk,yn h2 hk⟩
theorem zem (q:Rat):(flr q).num=q.num / (q.den:Int):=rfl
theorem zor {q:Rat} (h:¬ q.num<0):(flr q).num=((q.num.natAbs / q.den:Nat):Int):=by
 rw [zem]
 have:q.num=(q.num.natAbs:Int):=by omega
 rw [this];rfl
theorem zk7 {q:Rat} (h:q.num<0) (h0:q.num.natAbs % q.den=0):(flr q).num= -((q.num.natAbs / q.den:Nat):Int)/\0<q.num.natAbs / q.den:=by
 have hd:=q.den_pos
 have h1:=Nat.div_add_mod q.num.natAbs q.den
 have h3:q.num= -((q.num.natAbs:Nat):Int):=by omega
 have hp:0<q.num.natAbs / q.den:=Nat.pos_of_ne_zero (fun e=>by rw [e] at h1;omega)
 refine ⟨?_,hp⟩
 rw [zem]
 refine (Int.ediv_eq_iff_of_pos (show (0:Int)<q.den by omega)).2 ?_
 have h2:(((q.den*(q.num.natAbs / q.den):Nat)):Int)=(q.num.natAbs:Int):=by rw [h0] at h1;omega
 rw [Int.natCast_mul] at h2
 rw [Int.neg_mul,Int.mul_comm]
 omega
theorem zgz {q:Rat} (h:q.num<0) (h0:0<q.num.natAbs % q.den):(flr q).num= -((q.num.natAbs / q.den+1:Nat):Int):=by
 have hd:=q.den_pos
 have h1:=Nat.div_add_mod q.num.natAbs q.den
 have h4:=Nat.mod_lt q.num.natAbs hd
 have h3:q.num= -((q.num.natAbs:Nat):Int):=by omega
 rw [zem]
 refine (Int.ediv_eq_iff_of_pos (show (0:Int)<q.den by omega)).2 ?_
 have h2:(((q.den*(q.num.natAbs / q.den):Nat)):Int)+((q.num.natAbs % q.den:Nat):Int)=(q.num.natAbs:Int):=by omega
 rw [Int.natCast_mul] at h2
 rw [Int.natCast_add,Int.neg_mul,Int.add_mul,Int.mul_comm ((q.num.natAbs / q.den:Nat):Int)]
 omega
theorem zf2 (va:Value) (q:Rat) (w:World) (ha:vr w va q) (hl:zbh 33554432 q) (hq:¬ q.num<0):
 Calls Tryz.prog 89 #[va] w (zae w (flr q)):=by
 obtain ⟨ng,A,n,c,B,m,d,rfl,hg,ha1,ha2⟩:=ha
 obtain rfl:ng=false:=by rw [hg];exact decide_eq_false hq
 have HD:=ze q.den_pos
 have HL1:=ze hl.1
 have HL2:=ze hl.2
 have hW:=ext (zf w (.cells #[.bool false,.slice A n c,.slice B m d] 78)) (zf _ (.cells #[.bool false,.slice none 0 0,.slice none 0 0] 78))
 have HA:=ze (zw.below ha1 hW)
 have HB:=ze (zw.below ha2 hW)
 have HX:=ze ((Blk.new w 78 #[.bool false,.slice A n c,.slice B m d]).alloc (.cells #[.bool false,.slice none 0 0,.slice none 0 0] 78))
 have hc:=Blk.new (w.alloc (.cells #[.bool false,.slice A n c,.slice B m d] 78)) 78 #[.bool false,.slice none 0 0,.slice none 0 0]
 simp only [World.size_alloc] at hc
 have HC:=ze hc
 have HW:=ze hW
 have HF:=ze (zor hq)
 have hone:=fun W=>vP W (d:=1) (by omega) (by omega)
 have HONE:=ze hone
 clear hg ha1 ha2 hl hc hW hq hone
 go_enter Tryz.func89,Tryz.ntmps89
 go_wp2_with fail
 refine (ve _ _ q.num.natAbs q.den _ HA.out HB.out HD.out HL1.out HL2.out).mono ?_
 rintro e w1 ⟨v,v',rfl,hv,hv',hb1⟩
 obtain ⟨A2,c2,rfl⟩:=hv.form
 obtain ⟨A3,c3,rfl⟩:=hv'.form
 have kX:=HX.out.below hb1 HX.out.lt
 have x0:=kX.cell 0
 simp at x0
 have HX1:=ze kX
 have HC1:=ze (HC.out.below hb1 HC.out.lt)
 have HQ:=ze hv
 replace HW:=eb_ HW hb1
 clear hb1 kX hv HX HC HA HB
 generalize hn2:len 1000000000 (q.num.natAbs / q.den)=n2 at*
 clear hn2
 clear hv'
 have hx:=zf w1 (.cells #[.int .i64 1] 3)
 have HV:=ze (zw.below HQ.out hx)
 have HO:=ze (HONE.out w1)
 have kC:=HC1.out.below hx HC1.out.lt
 replace HW:=eb_ HW hx
 have HC2:=ze kC
 have HN:=ze (show w.heap.size+1<w1.heap.size from HC1.out.lt)
 clear hx kC HQ HONE
 have y0:=HC2.out.cell 0
 have y1:=HC2.out.cell 1
 have y2:=HC2.out.cell 2
 have f0:=HC2.out.frozen 0
 have f1:=HC2.out.frozen 1
 have f2:=HC2.out.frozen 2
 simp at y0 y1 y2
 go_wp2_with fail
 have kD:=yS (ng:=false) (A:=A2) (n:=n2) (c:=c2) (B:=some ⟨w1.heap.size,0,none⟩) (m:=1) (d:=1) HC2.out
 have hv1:=yn (ng:=false) (A:=A2) (n:=n2) (c:=c2) (B:=some ⟨w1.heap.size,0,none⟩) (m:=1) (d:=1) HV.out HC2.out
 have hv2:=yn (ng:=false) (A:=A2) (n:=n2) (c:=c2) (B:=some ⟨w1.heap.size,0,none⟩) (m:=1) (d:=1) HO.out HC2.out
 have e0:=kD.cell 0
 have e1:=kD.cell 1
 have e2:=kD.cell 2
 simp only [World.ref] at e0 e1 e2
 simp at e0 e1 e2
 have hna:(flr q).num.natAbs=q.num.natAbs / q.den:=by rw [HF.out];exact Int.natAbs_natCast _
 have hsg:false=decide ((flr q).num<0):=by rw [HF.out];exact (decide_eq_false (by omega)).symm
 refine bodyPost_ret (v:=.agg #[.bool false,.slice A2 n2 c2,.slice (some ⟨w1.heap.size,0,none⟩) 1 1]) (by simp [results,Tryz.results89,go_sem,e0,e1,e2]) rfl ?_
 exact ⟨_,rfl,⟨_,_,_,_,_,_,_,rfl,hsg,by rw [hna];exact hv1,hv2⟩,yq HW.out (by omega)⟩
theorem zgv (va:Value) (q:Rat) (w:World) (ha:vr w va q) (hl:zbh 33554432 q) (hq:q.num<0) (hr:q.num.natAbs % q.den=0):
 Calls Tryz.prog 89 #[va] w (zae w (flr q)):=by
 obtain ⟨ng,A,n,c,B,m,d,rfl,hg,ha1,ha2⟩:=ha
 obtain rfl:ng=true:=by rw [hg];exact decide_eq_true hq
 have HD:=ze q.den_pos
 have HL1:=ze hl.1
 have HL2:=ze hl.2
 have hW:=ext (zf w (.cells #[.bool true,.slice A n c,.slice B m d] 78)) (zf _ (.cells #[.bool false,.slice none 0 0,.slice none 0 0] 78))
 have HA:=ze (zw.below ha1 hW)
 have HB:=ze (zw.below ha2 hW)
 have HX:=ze ((Blk.new w 78 #[.bool true,.slice A n c,.slice B m d]).alloc (.cells #[.bool false,.slice none 0 0,.slice none 0 0] 78))
 have hc:=Blk.new (w.alloc (.cells #[.bool true,.slice A n c,.slice B m d] 78)) 78 #[.bool false,.slice none 0 0,.slice none 0 0]
 simp only [World.size_alloc] at hc
 have HC:=ze hc
 have HW:=ze hW
 have HF:=ze (zk7 hq hr)
 have HR:=ze hr
 have hone:=fun W=>vP W (d:=1) (by omega) (by omega)
 have HONE:=ze hone
 clear hg ha1 ha2 hl hc hW hq hone hr
 go_enter Tryz.func89,Tryz.ntmps89
 go_wp2_with fail
 refine (ve _ _ q.num.natAbs q.den _ HA.out HB.out HD.out HL1.out HL2.out).mono ?_
 rintro e w1 ⟨v,v',rfl,hv,hv',hb1⟩
 obtain ⟨A2,c2,rfl⟩:=hv.form
 obtain ⟨A3,c3,rfl⟩:=hv'.form
 have kX:=HX.out.below hb1 HX.out.lt
 have x0:=kX.cell 0
 simp at x0
 have HX1:=ze kX
 have HC1:=ze (HC.out.below hb1 HC.out.lt)
 have HQ:=ze hv
 replace HW:=eb_ HW hb1
 clear hb1 kX hv HX HC HA HB
 have hz:len 1000000000 (q.num.natAbs % q.den)=0:=by rw [HR.out];exact Xh _
 have hp:0<len 1000000000 (q.num.natAbs / q.den):=YI (by omega) HF.out.2
 have hpi:decide ((0:Int)<((len 1000000000 (q.num.natAbs / q.den):Nat):Int))=true:=decide_eq_true (by omega)
 rw [hz] at hv' |-
 clear hz
 generalize hn2:len 1000000000 (q.num.natAbs / q.den)=n2 at*
 clear hn2
 clear hv'
 have hx:=zf w1 (.cells #[.int .i64 1] 3)
 have HV:=ze (zw.below HQ.out hx)
 have HO:=ze (HONE.out w1)
 have kC:=HC1.out.below hx HC1.out.lt
 replace HW:=eb_ HW hx
 have HC2:=ze kC
 have HN:=ze (show w.heap.size+1<w1.heap.size from HC1.out.lt)
 clear hx kC HQ HONE
 have y0:=HC2.out.cell 0
 have y1:=HC2.out.cell 1
 have y2:=HC2.out.cell 2
 have f0:=HC2.out.frozen 0
 have f1:=HC2.out.frozen 1
 have f2:=HC2.out.frozen 2
 simp at y0 y1 y2
 go_wp2_with fail
 have kD:=yS (ng:=true) (A:=A2) (n:=n2) (c:=c2) (B:=some ⟨w1.heap.size,0,none⟩) (m:=1) (d:=1) HC2.out
 have hv1:=yn (ng:=true) (A:=A2) (n:=n2) (c:=c2) (B:=some ⟨w1.heap.size,0,none⟩) (m:=1) (d:=1) HV.out HC2.out
 have hv2:=yn (ng:=true) (A:=A2) (n:=n2) (c:=c2) (B:=some ⟨w1.heap.size,0,none⟩) (m:=1) (d:=1) HO.out HC2.out
 have e0:=kD.cell 0
 have e1:=kD.cell 1
 have e2:=kD.cell 2
 simp only [World.ref] at e0 e1 e2
 simp at e0 e1 e2
 have hna:(flr q).num.natAbs=q.num.natAbs / q.den:=by rw [HF.out.1,Int.natAbs_neg];exact Int.natAbs_natCast _
 have hsg:true=decide ((flr q).num<0):=by rw [HF.out.1];exact (decide_eq_true (by have:=HF.out.2;omega)).symm
 refine bodyPost_ret (v:=.agg #[.bool true,.slice A2 n2 c2,.slice (some ⟨w1.heap.size,0,none⟩) 1 1]) (by simp [results,Tryz.results89,go_sem,e0,e1,e2]) rfl ?_
 exact ⟨_,rfl,⟨_,_,_,_,_,_,_,rfl,hsg,by rw [hna];exact hv1,hv2⟩,yq HW.out (by omega)⟩
theorem zgm (va:Value) (q:Rat) (w:World) (ha:vr w va q) (hl:zbh 33554432 q) (hq:q.num<0) (hr:0<q.num.natAbs % q.den):
 Calls Tryz.prog 89 #[va] w (zae w (flr q)):=by
 obtain ⟨ng,A,n,c,B,m,d,rfl,hg,ha1,ha2⟩:=ha
 obtain rfl:ng=true:=by rw [hg];exact decide_eq_true hq
 have HD:=ze q.den_pos
 have HL1:=ze hl.1
 have HL2:=ze hl.2
 have hW:=ext (zf w (.cells #[.bool true,.slice A n c,.slice B m d] 78)) (zf _ (.cells #[.bool false,.slice none 0 0,.slice none 0 0] 78))
 have HA:=ze (zw.below ha1 hW)
 have HB:=ze (zw.below ha2 hW)
 have HX:=ze ((Blk.new w 78 #[.bool true,.slice A n c,.slice B m d]).alloc (.cells #[.bool false,.slice none 0 0,.slice none 0 0] 78))
 have hc:=Blk.new (w.alloc (.cells #[.bool true,.slice A n c,.slice B m d] 78)) 78 #[.bool false,.slice none 0 0,.slice none 0 0]
 simp only [World.size_alloc] at hc
 have HC:=ze hc
 have HW:=ze hW
 have HF:=ze (zgz hq hr)
 have HR:=ze hr
 have hone:=fun W=>vP W (d:=1) (by omega) (by omega)
 have HONE:=ze hone
 clear hg ha1 ha2 hl hc hW hq hone hr
 go_enter Tryz.func89,Tryz.ntmps89
 go_wp2_with fail
 refine (ve _ _ q.num.natAbs q.den _ HA.out HB.out HD.out HL1.out HL2.out).mono ?_
 rintro e w1 ⟨v,v',rfl,hv,hv',hb1⟩
 obtain ⟨A2,c2,rfl⟩:=hv.form
 obtain ⟨A3,c3,rfl⟩:=hv'.form
 have kX:=HX.out.below hb1 HX.out.lt
 have x0:=kX.cell 0
 simp at x0
 have HX1:=ze kX
 have HC1:=ze (HC.out.below hb1 HC.out.lt)
 have HQ:=ze hv
 replace HW:=eb_ HW hb1
 clear hb1 kX hv HX HC HA HB
 have hp3:0<len 1000000000 (q.num.natAbs % q.den):=YI (by omega) HR.out
 have hpi3:decide ((0:Int)<((len 1000000000 (q.num.natAbs % q.den):Nat):Int))=true:=decide_eq_true (by omega)
 generalize hn2:len 1000000000 (q.num.natAbs / q.den)=n2 at*
 clear hn2
 generalize hn3:len 1000000000 (q.num.natAbs % q.den)=n3 at*
 clear hn3
 clear hv'
 have hx:=zf w1 (.cells #[.int .i64 1] 3)
 have hq1:=zw.below HQ.out hx
 have ho1:=HONE.out w1
 have hc1:=HC1.out.below hx HC1.out.lt
 have hx1:=HX1.out.below hx HX1.out.lt
 have HQ1:=ze hq1
 have HO1:=ze ho1
 replace HC1:=ze hc1
 replace HX1:=ze hx1
 replace HW:=eb_ HW hx
 have hle:len 1000000000 (q.num.natAbs / q.den)<=67108864:=Nat.le_trans (xp (by omega) (Nat.div_le_self _ _)) (Nat.le_trans HL1.out (by omega))
 have HLE:=ze hle
 clear hx hq1 ho1 hc1 hx1 HQ hle
 go_wp2_with fail
 refine (zlc _ _ (q.num.natAbs / q.den) 1 _ HQ1.out HO1.out HLE.out (Nat.le_trans (ya (k:=1) (by omega) (by omega)) (by omega))).mono ?_
 rintro e w2 ⟨v,rfl,hv,hb2⟩
 obtain ⟨A4,c4,rfl⟩:=hv.form
 have hp:0<len 1000000000 (q.num.natAbs / q.den+1):=YI (by omega) (Nat.succ_pos _)
 have hpi:decide ((0:Int)<((len 1000000000 (q.num.natAbs / q.den+1):Nat):Int))=true:=decide_eq_true (by omega)
 have hx1:=HX1.out.below hb2 HX1.out.lt
 have hc1:=HC1.out.below hb2 HC1.out.lt
 clear x0
 have x0:=hx1.cell 0
 simp at x0
 have hx:=zf w2 (.cells #[.int .i64 1] 3)
 have HV:=ze (zw.below hv hx)
 have HO:=ze (HONE.out w2)
 have HC2:=ze (hc1.below hx hc1.lt)
 have HN:=ze (show w.heap.size+1<w2.heap.size from hc1.lt)
 replace HW:=ze (ext (ext HW.out hb2) hx)
 clear hx hv hx1 hc1 hb2 HONE HQ1 HO1
 generalize hn4:len 1000000000 (q.num.natAbs / q.den+1)=n4 at*
 clear hn4
 have y0:=HC2.out.cell 0
 have y1:=HC2.out.cell 1
 have y2:=HC2.out.cell 2
 have f0:=HC2.out.frozen 0
 have f1:=HC2.out.frozen 1
 have f2:=HC2.out.frozen 2
 simp at y0 y1 y2
 go_wp2_with fail
 have kD:=yS (ng:=true) (A:=A4) (n:=n4) (c:=c4) (B:=some ⟨w2.heap.size,0,none⟩) (m:=1) (d:=1) HC2.out
 have hv1:=yn (ng:=true) (A:=A4) (n:=n4) (c:=c4) (B:=some ⟨w2.heap.size,0,none⟩) (m:=1) (d:=1) HV.out HC2.out
 have hv2:=yn (ng:=true) (A:=A4) (n:=n4) (c:=c4) (B:=some ⟨w2.heap.size,0,none⟩) (m:=1) (d:=1) HO.out HC2.out
 have e0:=kD.cell 0
 have e1:=kD.cell 1
 have e2:=kD.cell 2
 simp only [World.ref] at e0 e1 e2
 simp at e0 e1 e2
 have hna:(flr q).num.natAbs=q.num.natAbs / q.den+1:=by rw [HF.out,Int.natAbs_neg];exact Int.natAbs_natCast _
 have hsg:true=decide ((flr q).num<0):=by rw [HF.out];exact (decide_eq_true (by generalize q.num.natAbs / q.den=t;omega)).symm
 refine bodyPost_ret (v:=.agg #[.bool true,.slice A4 n4 c4,.slice (some ⟨w2.heap.size,0,none⟩) 1 1]) (by simp [results,Tryz.results89,go_sem,e0,e1,e2]) rfl ?_
 exact ⟨_,rfl,⟨_,_,_,_,_,_,_,rfl,hsg,by rw [hna];exact hv1,hv2⟩,yq HW.out (by omega)⟩
theorem xK (va:Value) (q:Rat) (w:World) (ha:vr w va q) (hl:zbh 33554432 q):
 Calls Tryz.prog 89 #[va] w (zae w (flr q)):=by
 by_cases hq:q.num<0
 . by_cases hr:q.num.natAbs % q.den=0
   . exact zgv va q w ha hl hq hr
   . exact zgm va q w ha hl hq (by omega)
 . exact zf2 va q w ha hl hq
end Go.Proofs.YtnpbflhjglkokaaGreatDoor
namespace Go.Proofs.YtnpbflhjglkokaaGreatDoor
open Go.RowKit Go.Deep
theorem zld {e:Nat} {q:Rat} (h:Dz e q):Dz (e+1) (flr q):=by
 have hd:(0:Int)<q.den:=by have:=q.den_pos;omega
 have h3:=Int.mul_ediv_add_emod q.num q.den
 have h4:=Int.emod_nonneg q.num (show (q.den:Int)≠0 by omega)
 have h5:=Int.emod_lt_of_pos q.num hd
 have h1:(q.num / (q.den:Int)).natAbs<=q.num.natAbs+1:=by
  generalize q.num / (q.den:Int)=k at h3 |-
  have h6:(q.den:Int)*k<=q.num:=by omega
  have h7:q.num<(q.den:Int)*(k+1):=by rw [Int.mul_add];omega
  by_cases hk:0<=k
  . have:k<=(q.den:Int)*k:=by have:=Int.mul_le_mul_of_nonneg_right (show (1:Int)<=q.den by omega) hk;omega
    omega
  . have:(q.den:Int)*(k+1)<=k+1:=by have:=Int.mul_le_mul_of_nonpos_right (show (1:Int)<=q.den by omega) (show k+1<=0 by omega);omega
    omega
 have h8:0<10 ^ e:=Nat.pow_pos (by omega)
 have h9:10 ^ (e+1)=10 ^ e*10:=Nat.pow_succ 10 e
 have h10:=h.1
 refine ⟨?_,?_⟩
 . show (q.num / (q.den:Int)).natAbs<=10 ^ (e+1)
   omega
 . show 1<=10 ^ (e+1)
   omega
end Go.Proofs.YtnpbflhjglkokaaGreatDoor
namespace Go.Proofs.YtnpbflhjglkokaaGreatDoor
open Go.RowKit Go.Deep
attribute [local go_sem ↓] Go.wp_at_zero Go.wp_at_succ
theorem Dz.nlen {e:Nat} {q:Rat} (h:Dz e q):zbh (e+1) q:=
 have h1:=Dz.short h (Nat.lt_succ_self e)
 ⟨Nat.le_trans (v8 (by omega)) h1.1,Nat.le_trans (v8 (by omega)) h1.2⟩
def tot:List ByteArray->Nat->Nat
 | [],_=>0
 | _,0=>0
 | s :: l,k+1=>s.size+tot l k
theorem zfh (l:List ByteArray):tot l 0=0:=by cases l<;>rfl
theorem ze9:∀ (l:List ByteArray) (k:Nat) (h:k<l.length),tot l (k+1)=tot l k+l[k].size
 | [],k,h=>absurd h (Nat.not_lt_zero _)
 | s :: l,0,h=>by simp [tot,zfh]
 | s :: l,k+1,h=>by
   have:=ze9 l k (by simpa using h);simp only [tot,List.getElem_cons_succ]
   omega
theorem zle:∀ (l:List ByteArray) (k:Nat),(∀ s∈l,s.size<=reachBytes)->tot l k<=k*reachBytes
 | [],k,_=>Nat.zero_le _
 | s :: l,0,h=>Nat.zero_le _
 | s :: l,k+1,h=>by
   have h1:=zle l k (fun x hx=>h x (List.mem_cons_of_mem _ hx));have h2:=h s (List.mem_cons_self ..);simp only [tot,Nat.succ_mul]
   omega
def LngR (w0:World) (l:List ByteArray) (nv iv:Value) (wr:World):Prop:=∃ i:Nat,i<=l.length/\nv= .int .i64 (tot l i:Nat)/\iv= .int .i64 i/\w0=wr
theorem zkq (g c:Nat) (l:List ByteArray) (w:World) (hc:∀ i (h:i<l.length),w.cell? ⟨g,i,none⟩=some (.string l[i])) (hl:l.length<=2) (hs:∀ s∈l,s.size<=reachBytes):
 Calls Tryz.prog 29 #[.slice (some ⟨g,0,none⟩) l.length c] w (X6 w (.bool (decide (600<tot l l.length)))):=by
 have HC:=ze hc
 have HS:=ze hs
 have HL:=ze hl
 have hlen:l.length<=1000000:=by omega
 clear hc hs hl
 go_enter Tryz.func29,Tryz.ntmps29
 go_wp2_with fail
 go_loopw [3,4] (LngR w l) (fun _ iv _=>l.length - (intOf iv).toNat)
 case atStart=>exact ⟨0,Nat.zero_le _,by rw [zfh];rfl,rfl,rfl⟩
 case round=>
  obtain ⟨i,hi,rfl,rfl,rfl⟩:=hrel
  by_cases hil:i<l.length
  . have hii:(i:Int)<(l.length:Int):=by omega
    have c1:w.cell? ⟨g,i,none⟩=some (.string l[i]):=HC.out i hil;have ht:=ze9 l i hil;have hb:=zle l (i+1) HS.out;have hm:(i+1)*reachBytes<=2*reachBytes:=Nat.mul_le_mul_right _ (by have:=HL.out;omega)
    have hw1:IntKind.i64.wrap ((tot l i:Nat)+(l[i].size:Nat):Int)=((tot l (i+1):Nat):Int):=by
     have h3:2*reachBytes<=1000000000000000:=by decide
     have h4:=Nat.le_trans hb (Nat.le_trans hm h3);rw [ht] at h4 |-;rw [IntKind.wrap_i64];omega
    have HT:=ze hw1;generalize l[i]=s at c1 hw1 HT;generalize tot l i=n at hw1 HT |-;clear ht hb hm;go_wp2_with fail;go_roundw
    case rel=>exact ⟨i+1,by omega,by go_num,by go_num,rfl⟩
    case measure=>simp [intOf];omega
  . obtain rfl:l.length=i:=by omega
    go_wp2_with fail;go_ret;exact ⟨by go_num,rfl⟩
end Go.Proofs.YtnpbflhjglkokaaGreatDoor
