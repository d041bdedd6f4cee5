/- Parts of the proof: memory, numbers, walks of the functions that are called. -/
import Derived.Test.YtacfcmdlgebhgaaGreatMg17
import Derived.Test.YtacfcmdlgebhgaaGreatMg16
set_option linter.unusedVariables false
set_option linter.unusedSimpArgs false
set_option maxRecDepth 100000
set_option maxHeartbeats 32000000
namespace Go.Proofs.YtacfcmdlgebhgaaGreat
open Go.RowKit Go.Deep
attribute [local go_sem ↓] Go.wp_at_zero Go.wp_at_succ
theorem zdv {z:Int} (h:len 4294967296 z.natAbs<=67108864):(xA z).length<=671088642:=by
 have:=Y4 h
 unfold xA
 split
 . rw [List.length_cons];omega
 omega
theorem zka {q:Rat} (h:q.den=1):zh q=xA q.num:=by
 unfold zh xA
 rw [if_pos h]
 by_cases h0:q.num<0
 . rw [if_pos h0,if_pos h0];simp
 rw [if_neg h0,if_neg h0];simp
theorem zje {q:Rat} (h:q.den≠1):zh q=xA q.num ++ 47 :: xA (q.den:Int):=by
 have hd:xA (q.den:Int)=dec q.den:=by unfold xA;rw [if_neg (by omega),Int.natAbs_natCast]
 rw [hd]
 unfold zh xA
 rw [if_neg h]
 by_cases h0:q.num<0
 . rw [if_pos h0,if_pos h0];simp
 rw [if_neg h0,if_neg h0];simp
theorem zie (a b:List UInt8):(⟨a.toArray⟩:ByteArray) ++ (⟨b.toArray⟩:ByteArray)=⟨(a ++ b).toArray⟩:=by
 apply ByteArray.ext
 rw [ByteArray.data_append]
 simp
theorem yt.one {w:World} {y d:Int} {B:Option Addr} {k c:Nat} {t:Bool} (h:yt w (.agg #[.int .i64 y,.slice B k c,.bool t]) d):d=1↔(B=none/\y=1):=by
 rcases h with ⟨x,ng,e,h1,h2,rfl⟩ | ⟨ad,k',c',n,ng,e,h1,h2,rfl⟩
 . injection e with e
   have e0:=congrArg (fun a=>a.toList) e;simp at e0;obtain ⟨rfl,⟨rfl,rfl,rfl⟩,rfl⟩:=e0
   simp
 . injection e with e
   have e0:=congrArg (fun a=>a.toList) e;simp at e0;obtain ⟨rfl,⟨rfl,rfl,rfl⟩,rfl⟩:=e0
   constructor
   rotate_left
   . intro h;cases h.1
   intro h
   split at h<;>omega
theorem zuz (va:Value) (q:Rat) (w:World) (ha:xR w va q) (hl:VW 67108864 q):
 Calls Tryz.prog 127 #[va] w (zoc w (zh q)):=by
 obtain ⟨x1,A1,k1,c1,s1,y1,B1,k1x,c1x,t1,rfl,ha1,ha2⟩:=ha
 have h1:=yt.one ha2
 have HB:=ze (zg w (.cells #[.int .i64 x1,.slice A1 k1 c1,.bool s1,.int .i64 y1,.slice B1 k1x c1x,.bool t1] 113))
 have HA:=ze (ha1.below HB.out)
 have HAN:=ze ha1
 have HAD:=ze ha2
 have HL1:=ze hl.1
 have HL2:=ze hl.2
 have q0:=fun w=>zql w B1 k1x c1x 0 0
 by_cases hd:q.den=1
 . obtain ⟨rfl,rfl⟩:=h1.1 (by omega)
   rw [zka hd];clear h1 ha1 ha2 hd hl
   go_enter Tryz.func127,Tryz.ntmps127
   go_wp2_with fail;refine (zav _ q.num _ HA.out HL1.out).mono ?_;rintro e w1 ⟨rfl,hb1⟩;go_wp2;go_ret;exact ⟨rfl,ext HB.out hb1⟩
 have hl1:=zdv HL1.out
 have hl2:=zdv HL2.out;have HT:=ze (zje hd);have hno:¬ (B1=none/\y1=1):=fun h=>hd (by have:=h1.2 h;omega)
 have hs1:¬ 9223372036854775807<(xA q.num).length+1:=by omega
 have hs2:¬ 9223372036854775807<(xA q.num).length+1+(xA (q.den:Int)).length:=by omega
 clear h1 ha1 ha2 hd hl hl1 hl2
 have hB0:B1=none->((y1:Int) == 1)=false:=by
  intro e;rw [beq_eq_false_iff_ne];exact fun h=>hno ⟨e,h⟩
 clear hno
 rcases B1 with _ | bd
 . have hy1:=hB0 rfl
   clear hB0;have HWX:Hid (Below w.heap.size w ((w.alloc (.cells #[.int .i64 x1,.slice A1 k1 c1,.bool s1,.int .i64 y1,.slice none k1x c1x,.bool t1] 113)).drew)):=ze (zo HB.out 1);clear HB HA
   go_enter Tryz.func127,Tryz.ntmps127
   go_wp2_with fail
   go_region_held3 (fun w' =>w'.cell? ⟨w.heap.size,0,none⟩=some (.int .i64 x1)/\w'.cell? ⟨w.heap.size,1,none⟩=some (.slice A1 k1 c1)/\w'.cell? ⟨w.heap.size,2,none⟩=some (.bool s1)/\w'.cell? ⟨w.heap.size,3,none⟩=some (.int .i64 y1)/\w'.cell? ⟨w.heap.size,4,none⟩=some (.slice none k1x c1x)/\w'.cell? ⟨w.heap.size,5,none⟩=some (.bool t1)/\w.heap.size<w'.heap.size/\Hid (Below w.heap.size w w'))
    (first
      | with_reducible exact ⟨by go_keep,by go_keep,by go_keep,by go_keep,by go_keep,by go_keep,by first | (simp;done) | (simp;omega),HWX⟩
      | (go_split_ands;with_reducible exact ⟨zj ‹_› ‹_› ‹_›,zj ‹_› ‹_› ‹_›,zj ‹_› ‹_› ‹_›,zj ‹_› ‹_› ‹_›,zj ‹_› ‹_› ‹_›,zj ‹_› ‹_› ‹_›,zA ‹_› ‹_›,zu ‹_› ‹_›⟩)
      | go_keep)
    (first
      | (go_at_call_of 147 (Value.agg #[.int .i64 x1,.slice A1 k1 c1,.bool s1]);refine (zav _ q.num _ (HAN.out.below (zB (by go_split_ands;assumption))) HL1.out).mono ?_;rintro e w1 ⟨rfl,hb1⟩)
      | (go_at_call_of 147 (Value.agg #[.int .i64 y1,.slice none k1x c1x,.bool t1]);refine (zav _ (q.den:Int) _ (HAD.out.below (zB (by go_split_ands;assumption))) HL2.out).mono ?_;rintro e w2 ⟨rfl,hb2⟩))
   all_goals
    go_split_ands;have hRW:=zB (by assumption:Hid (Below w.heap.size w w2));go_wp2;go_ret;refine ⟨?_,hRW⟩;rw [HT.out,show xA q.num ++ 47 :: xA (q.den:Int)=(xA q.num ++ [47]) ++ xA (q.den:Int) by simp, <- zie, <- zie]
    rfl
 . clear hB0
   have HWX:Hid (Below w.heap.size w ((w.alloc (.cells #[.int .i64 x1,.slice A1 k1 c1,.bool s1,.int .i64 y1,.slice (some bd) k1x c1x,.bool t1] 113)).drew)):=ze (zo HB.out 1);clear HB HA
   go_enter Tryz.func127,Tryz.ntmps127
   go_wp2_with fail
   go_region_held3 (fun w' =>w'.cell? ⟨w.heap.size,0,none⟩=some (.int .i64 x1)/\w'.cell? ⟨w.heap.size,1,none⟩=some (.slice A1 k1 c1)/\w'.cell? ⟨w.heap.size,2,none⟩=some (.bool s1)/\w'.cell? ⟨w.heap.size,3,none⟩=some (.int .i64 y1)/\w'.cell? ⟨w.heap.size,4,none⟩=some (.slice (some bd) k1x c1x)/\w'.cell? ⟨w.heap.size,5,none⟩=some (.bool t1)/\w.heap.size<w'.heap.size/\Hid (Below w.heap.size w w'))
    (first
      | with_reducible exact ⟨by go_keep,by go_keep,by go_keep,by go_keep,by go_keep,by go_keep,by first | (simp;done) | (simp;omega),HWX⟩
      | (go_split_ands;with_reducible exact ⟨zj ‹_› ‹_› ‹_›,zj ‹_› ‹_› ‹_›,zj ‹_› ‹_› ‹_›,zj ‹_› ‹_› ‹_›,zj ‹_› ‹_› ‹_›,zj ‹_› ‹_› ‹_›,zA ‹_› ‹_›,zu ‹_› ‹_›⟩)
      | go_keep)
    (first
      | (go_at_call_of 147 (Value.agg #[.int .i64 x1,.slice A1 k1 c1,.bool s1]);refine (zav _ q.num _ (HAN.out.below (zB (by go_split_ands;assumption))) HL1.out).mono ?_;rintro e w1 ⟨rfl,hb1⟩)
      | (go_at_call_of 147 (Value.agg #[.int .i64 y1,.slice (some bd) k1x c1x,.bool t1]);refine (zav _ (q.den:Int) _ (HAD.out.below (zB (by go_split_ands;assumption))) HL2.out).mono ?_;rintro e w2 ⟨rfl,hb2⟩))
   all_goals
    go_split_ands;have hRW:=zB (by assumption:Hid (Below w.heap.size w w2));go_wp2;go_ret;refine ⟨?_,hRW⟩;rw [HT.out,show xA q.num ++ 47 :: xA (q.den:Int)=(xA q.num ++ [47]) ++ xA (q.den:Int) by simp, <- zie, <- zie]
    rfl
theorem zdn (M:Nat) (q:Rat):(!decide (zG M q))=(decide (M<(dec q.num.natAbs).length) || decide (M<(dec q.den).length)):=by
 by_cases h1:(dec q.num.natAbs).length<=M
 rotate_left
 . rw [decide_eq_false (fun h:zG M q=>h1 h.1),decide_eq_true (show M<(dec q.num.natAbs).length by omega)];rfl
 by_cases h2:(dec q.den).length<=M
 . rw [decide_eq_true (show zG M q from ⟨h1,h2⟩),decide_eq_false (by omega),decide_eq_false (by omega)];rfl
 rw [decide_eq_false (fun h:zG M q=>h2 h.2),decide_eq_true (show M<(dec q.den).length by omega),Bool.or_true];rfl
theorem yH.slice {w:World} {v:Value} {n:Nat} (h:yH w v n):∃ A c,v= .slice A (len 4294967296 n) c:=by
 obtain ⟨A',c',ds,e,h1,h2,h3,h4,h5⟩:=h
 refine ⟨A',c',?_⟩
 rw [e, <- h5,h4.length_eq (by omega)]
theorem VA {n M:Nat} (h:len 4294967296 n*10<=M) (hM:1<=M):(dec n).length<=M:=by
 by_cases h0:n=0
 . subst h0;rw [vD];simpa using hM
 rw [zgc n h0]
 have h4:len 10 n<=10*len 4294967296 n:=by
  apply yo (by omega)
  have h1:=vq (β:=4294967296) (by omega) n;have h2:4294967296 ^ len 4294967296 n<=(10 ^ 10) ^ len 4294967296 n:=Nat.pow_le_pow_left (by omega) _;rw [<- Nat.pow_mul] at h2;exact Nat.lt_of_lt_of_le h1 h2
 omega
theorem zu8 (va:Value) (q:Rat) (M:Nat) (w:World) (ha:xR w va q) (hl:VW 67108864 q) (h1M:1<=M) (hM2:M<=1000000):
 Calls Tryz.prog 126 #[va,.int .i64 M] w (vO w (.bool (!decide (zG M q)))):=by
 obtain ⟨x1,A1,k1,c1,s1,y1,B1,k1x,c1x,t1,rfl,ha1,ha2⟩:=ha
 have hW:=zg w (.cells #[.int .i64 x1,.slice A1 k1 c1,.bool s1,.int .i64 y1,.slice B1 k1x c1x,.bool t1] 113)
 have HA:=ze (ha1.below hW)
 have HD:=ze (ha2.below hW)
 have HW:=ze hW
 have HL1:=ze hl.1
 have HL2:=ze hl.2
 have kB:=Blk.new w 113 #[.int .i64 x1,.slice A1 k1 c1,.bool s1,.int .i64 y1,.slice B1 k1x c1x,.bool t1]
 have HK:=ze kB
 clear ha1 ha2 hl hW kB
 go_enter Tryz.func126,Tryz.ntmps126
 go_wp2_with fail
 refine (ZS _ q.num _ HA.out).mono ?_
 rintro e w1 ⟨p,rfl,hp,hb1⟩
 have kB1:=HK.out.below hb1 HK.out.lt
 have b3:=kB1.cell 3
 have b4:=kB1.cell 4
 have b5:=kB1.cell 5
 simp at b3 b4 b5
 have HP:=ze hp
 have HB1:=ze hb1
 clear hp hb1 kB1
 go_wp2_with fail
 refine (ZS _ (q.den:Int) _ (HD.out.below HB1.out)).mono ?_
 rintro e w2 ⟨p',rfl,hp',hb2⟩
 obtain ⟨A2,c2,rfl⟩:=HP.out.slice
 obtain ⟨A3,c3,rfl⟩:=hp'.slice
 have HP2:=ze (HP.out.below hb2)
 have HP' :=ze hp'
 have HW2:=ze (ext (ext HW.out HB1.out) hb2)
 clear b3 b4 b5 hp' hb2
 have hk1:len 4294967296 q.num.natAbs<=67108864:=HL1.out
 have hk2:len 4294967296 (q.den:Int).natAbs<=67108864:=HL2.out
 obtain ⟨a,hA⟩:∃ a,a=len 4294967296 q.num.natAbs:=⟨_,rfl⟩
 obtain ⟨b,hB⟩:∃ b,b=len 4294967296 (q.den:Int).natAbs:=⟨_,rfl⟩
 rw [<- hA] at hk1
 rw [<- hB] at hk2
 rw [<- hA] at HP2
 rw [<- hB] at HP'
 have HA' :=ze hA
 have HB' :=ze hB
 rw [<- hA, <- hB]
 clear hA hB
 rcases (show a<=b\/b<a by omega) with hab | hab
 . by_cases hm:b*10<=M
   . have HS:=ze (show zG M q from ⟨VA (by rw [<- HA'.out];omega) h1M,by have:=VA (n:=(q.den:Int).natAbs) (by rw [<- HB'.out];omega) h1M;rwa [Int.natAbs_natCast] at this⟩)
     have HR:=ze (show (!decide (zG M q))=false by rw [decide_eq_true HS.out];rfl);go_wp2_with fail;go_ret;exact ⟨z0 HR.out,HW2.out⟩
   have hm' :¬ (b:Int)*10<=(M:Int):=by omega
   have hd1:=Y4 HL1.out;go_wp2_with fail;refine (YW _ _ _ HP2.out HL1.out).mono ?_;rintro e w3 ⟨rfl,hb3⟩;have HP3:=ze (HP'.out.below hb3);have HW3:=ze (ext HW2.out hb3);clear hb3
   by_cases h1:(dec q.num.natAbs).length<=M
   rotate_left
   . have HR:=ze (show (!decide (zG M q))=true by rw [decide_eq_false (fun h=>h1 h.1)];rfl)
     have hI1:(M:Int)<((dec q.num.natAbs).length:Int):=by omega
     clear h1;go_wp2_with fail;go_ret;exact ⟨z0 HR.out,HW3.out⟩
   have hd2:=Y4 HL2.out
   have hI1:¬ (M:Int)<((dec q.num.natAbs).length:Int):=by omega
   have HQ:=ze h1;clear h1
   by_cases h2:(dec (q.den:Int).natAbs).length<=M
   . have HR:=ze (show (!decide (zG M q))=false by rw [decide_eq_true ⟨HQ.out,by rw [Int.natAbs_natCast] at h2;exact h2⟩];rfl)
     have hI2:¬ (M:Int)<((dec (q.den:Int).natAbs).length:Int):=by omega
     clear h2;go_wp2_with fail;refine (YW _ _ _ HP3.out HL2.out).mono ?_;rintro e w4 ⟨rfl,hb4⟩;go_wp2_with fail;go_ret;exact ⟨z0 (zdn M q),ext HW3.out hb4⟩
   have HR:=ze (show (!decide (zG M q))=true by rw [decide_eq_false (fun h=>h2 (by rw [Int.natAbs_natCast];exact h.2))];rfl)
   have hI2:(M:Int)<((dec (q.den:Int).natAbs).length:Int):=by omega
   clear h2;go_wp2_with fail;refine (YW _ _ _ HP3.out HL2.out).mono ?_;rintro e w4 ⟨rfl,hb4⟩;go_wp2_with fail;go_ret;exact ⟨z0 (zdn M q),ext HW3.out hb4⟩
 . by_cases hm:a*10<=M
   . have HS:=ze (show zG M q from ⟨VA (by rw [<- HA'.out];omega) h1M,by have:=VA (n:=(q.den:Int).natAbs) (by rw [<- HB'.out];omega) h1M;rwa [Int.natAbs_natCast] at this⟩)
     have HR:=ze (show (!decide (zG M q))=false by rw [decide_eq_true HS.out];rfl);go_wp2_with fail;go_ret;exact ⟨z0 HR.out,HW2.out⟩
   have hm' :¬ (a:Int)*10<=(M:Int):=by omega
   have hd1:=Y4 HL1.out;go_wp2_with fail;refine (YW _ _ _ HP2.out HL1.out).mono ?_;rintro e w3 ⟨rfl,hb3⟩;have HP3:=ze (HP'.out.below hb3);have HW3:=ze (ext HW2.out hb3);clear hb3
   by_cases h1:(dec q.num.natAbs).length<=M
   rotate_left
   . have HR:=ze (show (!decide (zG M q))=true by rw [decide_eq_false (fun h=>h1 h.1)];rfl)
     have hI1:(M:Int)<((dec q.num.natAbs).length:Int):=by omega
     clear h1;go_wp2_with fail;go_ret;exact ⟨z0 HR.out,HW3.out⟩
   have hd2:=Y4 HL2.out
   have hI1:¬ (M:Int)<((dec q.num.natAbs).length:Int):=by omega
   have HQ:=ze h1;clear h1
   by_cases h2:(dec (q.den:Int).natAbs).length<=M
   . have HR:=ze (show (!decide (zG M q))=false by rw [decide_eq_true ⟨HQ.out,by rw [Int.natAbs_natCast] at h2;exact h2⟩];rfl)
     have hI2:¬ (M:Int)<((dec (q.den:Int).natAbs).length:Int):=by omega
     clear h2;go_wp2_with fail;refine (YW _ _ _ HP3.out HL2.out).mono ?_;rintro e w4 ⟨rfl,hb4⟩;go_wp2_with fail;go_ret;exact ⟨z0 (zdn M q),ext HW3.out hb4⟩
   have HR:=ze (show (!decide (zG M q))=true by rw [decide_eq_false (fun h=>h2 (by rw [Int.natAbs_natCast];exact h.2))];rfl)
   have hI2:(M:Int)<((dec (q.den:Int).natAbs).length:Int):=by omega
   clear h2;go_wp2_with fail;refine (YW _ _ _ HP3.out HL2.out).mono ?_;rintro e w4 ⟨rfl,hb4⟩;go_wp2_with fail;go_ret;exact ⟨z0 (zdn M q),ext HW3.out hb4⟩
def XS (q:Rat):List UInt8×Int:=if zG 50000 q then (zh q,0) else ([],3)
def zrq (w:World) (r:List UInt8×Int) (e:Ending) (w' :World):Prop:=e= .returned (.tuple #[str r.1,.int .i64 r.2])/\Below w.heap.size w w'
theorem zdq (va:Value) (q:Rat) (w:World) (ha:xR w va q) (hl:VW 67108864 q):
 Calls Tryz.prog 105 #[va] w (zrq w (XS q)):=by
 obtain ⟨x1,A1,k1,c1,s1,y1,B1,k1x,c1x,t1,rfl,ha1,ha2⟩:=ha
 have hW:=zg w (.cells #[.int .i64 x1,.slice A1 k1 c1,.bool s1,.int .i64 y1,.slice B1 k1x c1x,.bool t1] 113)
 have HR:=ze (show xR _ _ q from ⟨_,_,_,_,_,_,_,_,_,_,rfl,ha1.below hW,ha2.below hW⟩)
 have HW:=ze hW
 have HL:=ze hl
 have kB:=Blk.new w 113 #[.int .i64 x1,.slice A1 k1 c1,.bool s1,.int .i64 y1,.slice B1 k1x c1x,.bool t1]
 have HK:=ze kB
 clear ha1 ha2 hl hW kB
 have hlg:=fun v w h hl=>zu8 v q 50000 w h hl (by omega) (by omega)
 by_cases hs:zG 50000 q
 . have e1:(!decide (zG 50000 q))=false:=by rw [decide_eq_true hs];rfl
   have e2:XS q=(zh q,0):=by unfold XS;rw [if_pos hs]
   rw [e1] at hlg;rw [e2];clear e1 e2 hs
   go_enter Tryz.func105,Tryz.ntmps105
   go_wp2_with fail;refine (hlg _ _ HR.out HL.out).mono ?_;rintro e w1 ⟨rfl,hb1⟩;have kB1:=HK.out.below hb1 HK.out.lt;have b0:=kB1.cell 0;have b1:=kB1.cell 1;have b2:=kB1.cell 2;have b3:=kB1.cell 3;have b4:=kB1.cell 4;have b5:=kB1.cell 5;simp at b0 b1 b2 b3 b4 b5;have HB1:=ze hb1;clear hb1 kB1;go_wp2_with fail;refine (zuz _ q w1 (HR.out.below HB1.out) HL.out).mono ?_;rintro e w2 ⟨rfl,hb2⟩;have HB2:=ze hb2;clear hb2;go_wp2_with fail;go_ret2;exact ⟨rfl,ext (ext HW.out HB1.out) HB2.out⟩
 have e1:(!decide (zG 50000 q))=true:=by rw [decide_eq_false hs];rfl
 have e2:XS q=([],3):=by unfold XS;rw [if_neg hs]
 rw [e1] at hlg;rw [e2];clear e1 e2 hs
 go_enter Tryz.func105,Tryz.ntmps105
 go_wp2_with fail;refine (hlg _ _ HR.out HL.out).mono ?_;rintro e w1 ⟨rfl,hb1⟩;have HB1:=ze hb1;clear hb1;go_wp2_with fail;go_ret2;exact ⟨rfl,ext HW.out HB1.out⟩
theorem zcb {w w' :World} {v:Value} {z:Int} (hb:Below w.heap.size w w') (h:Hid (yt w v z)):Hid (yt w' v z):=h.out.below hb
theorem ZT {w:World} {g:Nat} {v:Value} {z x y:Int} {A B:Option Addr} {k c k' c' :Nat} {s t:Bool} (hr:Hid (Xm w g)) (h:Hid (yt w v z)):Hid (yt (World.rat w g x A k c s y B k' c' t) v z):=by
 obtain ⟨x,A,k,c,s,y,B,k',c',t,hr⟩:=hr.out
 exact yx h.out hr
def zy4 (v:Value):Prop:=∃ (x:Int) (A:Option Addr) (k c:Nat) (s:Bool) (y:Int) (B:Option Addr) (k' c' :Nat) (t:Bool),v= .agg #[.int .i64 x,.slice A k c,.bool s,.int .i64 y,.slice B k' c',.bool t]
def vx (w:World) (l:List UInt8) (e:Ending) (w' :World):Prop:=
 ∃ v b,e= .returned (.tuple #[v,.bool b])/\zy4 v/\b=(zp l).isSome/\(∀ q,zp l=some q->xR w' v q)/\Below w.heap.size w w'
theorem vx.no {w w' :World} {l:List UInt8} {v:Value} (h:zp l=none) (hv:zy4 v) (hb:Below w.heap.size w w'):vx w l (.returned (.tuple #[v,.bool false])) w' :=
 ⟨v,false,rfl,hv,by rw [h];rfl,fun q hq=>(by rw [h] at hq;cases hq),hb⟩
theorem vx.yes {w w' :World} {l:List UInt8} {v:Value} {q:Rat} (h:zp l=some q) (hv:xR w' v q) (hb:Below w.heap.size w w'):vx w l (.returned (.tuple #[v,.bool true])) w' :=by
 refine ⟨v,true,rfl,?_,(by rw [h];rfl),fun q' hq=>?_,hb⟩
 rotate_left
 . rw [h] at hq;injection hq with hq;rw [<- hq];exact hv
 obtain ⟨x,A,k,c,s,y,B,k',c',t,rfl,_,_⟩:=hv
 exact ⟨x,A,k,c,s,y,B,k',c',t,rfl⟩
theorem vx.maybe {w w' :World} {l:List UInt8} {v:Value} {q:Rat} {d:Nat} (h:zp l=if q.den=d then some q else none) (hv:xR w' v q) (hb:Below w.heap.size w w'):
 vx w l (.returned (.tuple #[v,.bool (zQ (q.den:Int) (signed false d) == 0)])) w' :=by
 have e:(zQ (q.den:Int) (signed false d) == 0)=decide (q.den=d):=by
  unfold zQ signed
  simp only [Bool.false_eq_true,if_false]
  rcases Nat.lt_trichotomy q.den d with h1 | h1 | h1
  . rw [if_pos (by omega),decide_eq_false (by omega)];rfl
  . rw [if_neg (by omega),if_neg (by omega),decide_eq_true h1];rfl
  . rw [if_neg (by omega),if_pos (by omega),decide_eq_false (by omega)];rfl
 rw [e]
 by_cases hd:q.den=d
 . rw [decide_eq_true hd]
   rw [if_pos hd] at h;exact vx.yes h hv hb
 rw [decide_eq_false hd]
 rw [if_neg hd] at h;obtain ⟨x,A,k,c,s,y,B,k',c',t,rfl,_,_⟩:=hv;exact vx.no h ⟨x,A,k,c,s,y,B,k',c',t,rfl⟩ hb
theorem zb6 (a:ByteArray) (c:UInt8):(a.toList == [c])=decide (bts a=[c]):=by
 rw [Lib.toList_data]
 unfold bts
 rw [Bool.eq_iff_iff,beq_iff_eq,decide_eq_true_iff]
theorem zmj (w:World):yt w (.agg #[.int .i64 1,.slice none 0 0,.bool false]) 1:=.inl ⟨1,false,rfl,by omega,by omega,rfl⟩
theorem YY (s:Bool) (n d:Nat):Rat.divInt (signed s n) (signed false d)=xS s n d:=by
 unfold xS signed
 cases s<;>simp
theorem vN {s:Bool} {n M:Nat} (h:len 4294967296 n<=M):len 4294967296 (signed s n).natAbs<=M:=by
 unfold signed
 cases s<;>simpa using h
theorem YQ (s:ByteArray) (w:World) (hs:s.size<=1073741824):
 Calls Tryz.prog 89 #[.string s] w (vx w (bts s)):=by
 have hcp:=fun w=>zil s w hs
 have kR:=Blk.new w 113 #[.int .i64 0,.slice none 0 0,.bool false,.int .i64 0,.slice none 0 0,.bool false]
 have hWR:=zg w (.cells #[.int .i64 0,.slice none 0 0,.bool false,.int .i64 0,.slice none 0 0,.bool false] 113)
 go_enter Tryz.func89,Tryz.ntmps89
 go_wp2_with fail
 refine (hcp _).mono ?_
 rintro e w1 ⟨u,rfl,hu,rfl⟩
 have hus:u.size<=1073741824:=by
  rw [<- zm,hu]
  unfold zq
  have:=zm s
  split
  . rw [List.length_tail];omega
  omega
 have hct:=fun w=>ztl u 47 w hus
 obtain ⟨neg,hneg⟩:∃ neg,neg=yJ (bts s):=⟨_,rfl⟩
 rw [<- hneg]
 have HU:=ze hu
 have HN:=ze hneg
 clear hcp hu hneg
 go_wp2_with fail
 refine (hct _).mono ?_
 rintro e w1 ⟨a,b,rfl,ha,hb,n1,rfl⟩
 rw [HU.out] at ha hb |-
 obtain ⟨is_,his⟩:∃ is_,is_=has 47 (zq (bts s)):=⟨_,rfl⟩
 rw [<- his] at hb |-
 have has1:a.size<=1073741824:=by
  have h1:(yC 47 (zq (bts s))).length<=(zq (bts s)).length:=(List.takeWhile_sublist _).length_le
  rw [<- ha, <- HU.out,zm,zm] at h1
  omega
 have hbs1:b.size<=1073741824:=by
  rw [<- zm,hb]
  split
  rotate_left
  . simp
  have h1:(ys 47 (zq (bts s))).length<=(zq (bts s)).length:=by
   unfold ys;rw [List.length_tail];have:=(List.dropWhile_sublist (fun x=>x != (47:UInt8)) (l:=zq (bts s))).length_le
   omega
  rw [<- HU.out,zm] at h1;rw [HU.out] at h1
  omega
 have hpa:=fun w=>zji a w has1
 have hpb:=fun w=>zji b w hbs1
 have za:=zb6 a 48
 have zb:=zb6 b 48
 have zc:=zb6 b 49
 rw [ha] at hpa za
 have HA:=ze ha
 have HB:=ze hb
 have HI:=ze his
 have HS:=ze hs
 have kR1:=kR.drewN n1
 have hWR1:=zo hWR n1
 clear hct ha hb his hus has1 hbs1 hs kR hWR
 generalize (w.alloc (.cells #[.int .i64 0,.slice none 0 0,.bool false,.int .i64 0,.slice none 0 0,.bool false] 113)).drewN n1=w1 at kR1 hWR1 |-
 have lR:=kR1.lt
 have r0:=kR1.cell 0
 have r1:=kR1.cell 1
 have r2:=kR1.cell 2
 have r3:=kR1.cell 3
 have r4:=kR1.cell 4
 have r5:=kR1.cell 5
 have f0:=kR1.frozen 0
 have f1:=kR1.frozen 1
 have f2:=kR1.frozen 2
 have f3:=kR1.frozen 3
 have f4:=kR1.frozen 4
 have f5:=kR1.frozen 5
 simp at r0 r1 r2 r3 r4 r5
 have HKR:=ze kR1
 have HWR:=ze hWR1
 clear kR1 hWR1
 cases hpl:ye (yC 47 (zq (bts s))) with
 | false=>
   have HP:=ze (zvd hpl);rw [hpl] at hpa;clear hpl za zb zc hpb;go_wp2_with fail;refine (hpa _).mono ?_;rintro e w2 ⟨rfl,rfl⟩;go_wp2_with fail;have kR2:=yK (x:=0) (A:=none) (k:=0) (c:=0) (s:=false) (y:=0) (B:=none) (k' :=0) (c' :=0) (t:=false) HKR.out;have e0:=kR2.cell 0;have e1:=kR2.cell 1;have e2:=kR2.cell 2;have e3:=kR2.cell 3;have e4:=kR2.cell 4;have e5:=kR2.cell 5;simp only [World.rat] at e0 e1 e2 e3 e4 e5;simp at e0 e1 e2 e3 e4 e5;refine bodyPost_ret (v:=.tuple #[.agg #[.int .i64 0,.slice none 0 0,.bool false,.int .i64 0,.slice none 0 0,.bool false],.bool false]) (by simp [results,Tryz.results89,go_sem,e0,e1,e2,e3,e4,e5]) rfl ?_;exact vx.no HP.out ⟨_,_,_,_,_,_,_,_,_,_,rfl⟩ (yw (x:=0) (A:=none) (k:=0) (c:=0) (s:=false) (y:=0) (B:=none) (k' :=0) (c' :=0) (t:=false) HWR.out (Nat.le_refl _))
 | true=>
   have HPL:=ze hpl;rw [hpl] at hpa;clear hpl;go_wp2_with fail;refine (hpa _).mono ?_;rintro e w2 ⟨rfl,rfl⟩;clear hpa
   cases neg with
   | false=>
     cases za1:(a.toList == [48]) with
     | true=>
       cases is_ with
       | false=>
         have HP:=ze (zb8 HPL.out (fun h=>by rw [<- HN.out] at h;cases h) HI.out.symm);have HC:=ze (YI HPL.out);rw [<- HN.out] at HP;have HAS:=ze (show a.size<=50000 by rw [<- zm,HA.out];exact HC.out.2);clear za zb zc hpb;go_wp2_with fail;refine (YA a _ (by rw [HA.out];exact HC.out.1) HAS.out).mono ?_;rintro e w2 ⟨v,rfl,hv,hb2⟩;rw [HA.out] at hv;have HV:=ze hv;have HKR2:=ze (HKR.out.below hb2 lR);have HWR2:=ze (ext HWR.out hb2);clear hv hb2 r0 r1 r2 r3 r4 r5 f0 f1 f2 f3 f4 f5;go_wp2_with fail;refine (yj false v _ w2 HV.out).mono ?_;rintro e w3 ⟨v3,rfl,hv3,hb3⟩;obtain ⟨x',A',k',c',ng',rfl,_,_,_⟩:=hv3.form;have hb4:=zg w3 (.cells #[.int .i64 x',.slice A' k' c',.bool ng'] 111);have HV3:=ze (hv3.below hb4);have kR3:=(HKR2.out.below hb3 HKR2.out.lt).below hb4 (HKR2.out.below hb3 HKR2.out.lt).lt;have HWR3:=ze (ext (ext HWR2.out hb3) hb4);have HKR3:=ze kR3;have r0:=kR3.cell 0;have r1:=kR3.cell 1;have r2:=kR3.cell 2;have r3:=kR3.cell 3;have r4:=kR3.cell 4;have r5:=kR3.cell 5;have f0:=kR3.frozen 0;have f1:=kR3.frozen 1;have f2:=kR3.frozen 2;have f3:=kR3.frozen 3;have f4:=kR3.frozen 4
         have f5:=kR3.frozen 5;simp at r0 r1 r2 r3 r4 r5;have kX:=Blk.new w3 111 #[.int .i64 x',.slice A' k' c',.bool ng'];have g0:=kX.cell 0;have g1:=kX.cell 1;have g2:=kX.cell 2;simp at g0 g1 g2;clear hb3 hv3 hb4 kR3 kX lR;go_wp2_with fail;have kR4:=yK (x:=x') (A:=A') (k:=k') (c:=c') (s:=ng') (y:=1) (B:=none) (k' :=0) (c' :=0) (t:=false) HKR3.out;have e0:=kR4.cell 0;have e1:=kR4.cell 1;have e2:=kR4.cell 2;have e3:=kR4.cell 3;have e4:=kR4.cell 4;have e5:=kR4.cell 5;simp only [World.rat] at e0 e1 e2 e3 e4 e5;simp at e0 e1 e2 e3 e4 e5;refine bodyPost_ret (v:=.tuple #[.agg #[.int .i64 x',.slice A' k' c',.bool ng',.int .i64 1,.slice none 0 0,.bool false],.bool true]) (by simp [results,Tryz.results89,go_sem,e0,e1,e2,e3,e4,e5]) rfl ?_;refine vx.yes HP.out ⟨_,_,_,_,_,_,_,_,_,_,rfl,?_,?_⟩ (yw HWR3.out (Nat.le_refl _))
         . rw [(Xt _ _).1]
           exact yx HV3.out HKR3.out
         rw [(Xt _ _).2]
         exact zmj _
       | true=>
         cases hpb2:ye (bts b) with
         | false=>
           have HP:=ze (Yd HI.out.symm (.inl (by have:=HB.out;rw [if_pos rfl] at this;rw [<- this];exact hpb2)));rw [hpb2] at hpb;clear hpb2 za zb zc;go_wp2_with fail;refine (hpb _).mono ?_;rintro e w2 ⟨rfl,rfl⟩;go_wp2_with fail;have kR2:=yK (x:=0) (A:=none) (k:=0) (c:=0) (s:=false) (y:=0) (B:=none) (k' :=0) (c' :=0) (t:=false) HKR.out;have e0:=kR2.cell 0;have e1:=kR2.cell 1;have e2:=kR2.cell 2;have e3:=kR2.cell 3;have e4:=kR2.cell 4;have e5:=kR2.cell 5;simp only [World.rat] at e0 e1 e2 e3 e4 e5;simp at e0 e1 e2 e3 e4 e5;refine bodyPost_ret (v:=.tuple #[.agg #[.int .i64 0,.slice none 0 0,.bool false,.int .i64 0,.slice none 0 0,.bool false],.bool false]) (by simp [results,Tryz.results89,go_sem,e0,e1,e2,e3,e4,e5]) rfl ?_;exact vx.no HP.out ⟨_,_,_,_,_,_,_,_,_,_,rfl⟩ (yw (x:=0) (A:=none) (k:=0) (c:=0) (s:=false) (y:=0) (B:=none) (k' :=0) (c' :=0) (t:=false) HWR.out (Nat.le_refl _))
         | true=>
           have HPB:=ze hpb2;rw [hpb2] at hpb;clear hpb2
           cases zb1:(b.toList == [48]) with
           | true=>
             have HP:=ze (Yd HI.out.symm (.inr (.inl (by have:=HB.out;rw [if_pos rfl] at this;rw [<- this];exact of_decide_eq_true (zb.symm.trans zb1)))));clear za zb zc;go_wp2_with fail;refine (hpb _).mono ?_;rintro e w2 ⟨rfl,rfl⟩;go_wp2_with fail;have kR2:=yK (x:=0) (A:=none) (k:=0) (c:=0) (s:=false) (y:=0) (B:=none) (k' :=0) (c' :=0) (t:=false) HKR.out;have e0:=kR2.cell 0;have e1:=kR2.cell 1;have e2:=kR2.cell 2;have e3:=kR2.cell 3;have e4:=kR2.cell 4;have e5:=kR2.cell 5;simp only [World.rat] at e0 e1 e2 e3 e4 e5;simp at e0 e1 e2 e3 e4 e5;refine bodyPost_ret (v:=.tuple #[.agg #[.int .i64 0,.slice none 0 0,.bool false,.int .i64 0,.slice none 0 0,.bool false],.bool false]) (by simp [results,Tryz.results89,go_sem,e0,e1,e2,e3,e4,e5]) rfl ?_;exact vx.no HP.out ⟨_,_,_,_,_,_,_,_,_,_,rfl⟩ (yw (x:=0) (A:=none) (k:=0) (c:=0) (s:=false) (y:=0) (B:=none) (k' :=0) (c' :=0) (t:=false) HWR.out (Nat.le_refl _))
           | false=>
             cases zc1:(b.toList == [49]) with
             | true=>
               have HP:=ze (Yd HI.out.symm (.inr (.inr (.inl (by have:=HB.out;rw [if_pos rfl] at this;rw [<- this];exact of_decide_eq_true (zc.symm.trans zc1))))));clear za zb zc;go_wp2_with fail;refine (hpb _).mono ?_;rintro e w2 ⟨rfl,rfl⟩;go_wp2_with fail;have kR2:=yK (x:=0) (A:=none) (k:=0) (c:=0) (s:=false) (y:=0) (B:=none) (k' :=0) (c' :=0) (t:=false) HKR.out;have e0:=kR2.cell 0;have e1:=kR2.cell 1;have e2:=kR2.cell 2;have e3:=kR2.cell 3;have e4:=kR2.cell 4;have e5:=kR2.cell 5;simp only [World.rat] at e0 e1 e2 e3 e4 e5;simp at e0 e1 e2 e3 e4 e5;refine bodyPost_ret (v:=.tuple #[.agg #[.int .i64 0,.slice none 0 0,.bool false,.int .i64 0,.slice none 0 0,.bool false],.bool false]) (by simp [results,Tryz.results89,go_sem,e0,e1,e2,e3,e4,e5]) rfl ?_;exact vx.no HP.out ⟨_,_,_,_,_,_,_,_,_,_,rfl⟩ (yw (x:=0) (A:=none) (k:=0) (c:=0) (s:=false) (y:=0) (B:=none) (k' :=0) (c' :=0) (t:=false) HWR.out (Nat.le_refl _))
             | false=>
               have HP:=ze (Yd HI.out.symm (.inr (.inr (.inr (of_decide_eq_true (by rw [<- za];exact za1))))));clear za zb zc;go_wp2_with fail;refine (hpb _).mono ?_;rintro e w2 ⟨rfl,rfl⟩;go_wp2_with fail;have kR2:=yK (x:=0) (A:=none) (k:=0) (c:=0) (s:=false) (y:=0) (B:=none) (k' :=0) (c' :=0) (t:=false) HKR.out;have e0:=kR2.cell 0;have e1:=kR2.cell 1;have e2:=kR2.cell 2;have e3:=kR2.cell 3;have e4:=kR2.cell 4;have e5:=kR2.cell 5;simp only [World.rat] at e0 e1 e2 e3 e4 e5;simp at e0 e1 e2 e3 e4 e5;refine bodyPost_ret (v:=.tuple #[.agg #[.int .i64 0,.slice none 0 0,.bool false,.int .i64 0,.slice none 0 0,.bool false],.bool false]) (by simp [results,Tryz.results89,go_sem,e0,e1,e2,e3,e4,e5]) rfl ?_;exact vx.no HP.out ⟨_,_,_,_,_,_,_,_,_,_,rfl⟩ (yw (x:=0) (A:=none) (k:=0) (c:=0) (s:=false) (y:=0) (B:=none) (k' :=0) (c' :=0) (t:=false) HWR.out (Nat.le_refl _))
     | false=>
       cases is_ with
       | false=>
         have HP:=ze (zb8 HPL.out (fun h=>by rw [<- HN.out] at h;cases h) HI.out.symm);have HC:=ze (YI HPL.out);rw [<- HN.out] at HP;have HAS:=ze (show a.size<=50000 by rw [<- zm,HA.out];exact HC.out.2);clear za zb zc hpb;go_wp2_with fail;refine (YA a _ (by rw [HA.out];exact HC.out.1) HAS.out).mono ?_;rintro e w2 ⟨v,rfl,hv,hb2⟩;rw [HA.out] at hv;have HV:=ze hv;have HKR2:=ze (HKR.out.below hb2 lR);have HWR2:=ze (ext HWR.out hb2);clear hv hb2 r0 r1 r2 r3 r4 r5 f0 f1 f2 f3 f4 f5;go_wp2_with fail;refine (yj false v _ w2 HV.out).mono ?_;rintro e w3 ⟨v3,rfl,hv3,hb3⟩;obtain ⟨x',A',k',c',ng',rfl,_,_,_⟩:=hv3.form;have hb4:=zg w3 (.cells #[.int .i64 x',.slice A' k' c',.bool ng'] 111);have HV3:=ze (hv3.below hb4);have kR3:=(HKR2.out.below hb3 HKR2.out.lt).below hb4 (HKR2.out.below hb3 HKR2.out.lt).lt;have HWR3:=ze (ext (ext HWR2.out hb3) hb4);have HKR3:=ze kR3;have r0:=kR3.cell 0;have r1:=kR3.cell 1;have r2:=kR3.cell 2;have r3:=kR3.cell 3;have r4:=kR3.cell 4;have r5:=kR3.cell 5;have f0:=kR3.frozen 0;have f1:=kR3.frozen 1;have f2:=kR3.frozen 2;have f3:=kR3.frozen 3;have f4:=kR3.frozen 4
         have f5:=kR3.frozen 5;simp at r0 r1 r2 r3 r4 r5;have kX:=Blk.new w3 111 #[.int .i64 x',.slice A' k' c',.bool ng'];have g0:=kX.cell 0;have g1:=kX.cell 1;have g2:=kX.cell 2;simp at g0 g1 g2;clear hb3 hv3 hb4 kR3 kX lR;go_wp2_with fail;have kR4:=yK (x:=x') (A:=A') (k:=k') (c:=c') (s:=ng') (y:=1) (B:=none) (k' :=0) (c' :=0) (t:=false) HKR3.out;have e0:=kR4.cell 0;have e1:=kR4.cell 1;have e2:=kR4.cell 2;have e3:=kR4.cell 3;have e4:=kR4.cell 4;have e5:=kR4.cell 5;simp only [World.rat] at e0 e1 e2 e3 e4 e5;simp at e0 e1 e2 e3 e4 e5;refine bodyPost_ret (v:=.tuple #[.agg #[.int .i64 x',.slice A' k' c',.bool ng',.int .i64 1,.slice none 0 0,.bool false],.bool true]) (by simp [results,Tryz.results89,go_sem,e0,e1,e2,e3,e4,e5]) rfl ?_;refine vx.yes HP.out ⟨_,_,_,_,_,_,_,_,_,_,rfl,?_,?_⟩ (yw HWR3.out (Nat.le_refl _))
         . rw [(Xt _ _).1]
           exact yx HV3.out HKR3.out
         rw [(Xt _ _).2]
         exact zmj _
       | true=>
         cases hpb2:ye (bts b) with
         | false=>
           have HP:=ze (Yd HI.out.symm (.inl (by have:=HB.out;rw [if_pos rfl] at this;rw [<- this];exact hpb2)));rw [hpb2] at hpb;clear hpb2 za zb zc;go_wp2_with fail;refine (hpb _).mono ?_;rintro e w2 ⟨rfl,rfl⟩;go_wp2_with fail;have kR2:=yK (x:=0) (A:=none) (k:=0) (c:=0) (s:=false) (y:=0) (B:=none) (k' :=0) (c' :=0) (t:=false) HKR.out;have e0:=kR2.cell 0;have e1:=kR2.cell 1;have e2:=kR2.cell 2;have e3:=kR2.cell 3;have e4:=kR2.cell 4;have e5:=kR2.cell 5;simp only [World.rat] at e0 e1 e2 e3 e4 e5;simp at e0 e1 e2 e3 e4 e5;refine bodyPost_ret (v:=.tuple #[.agg #[.int .i64 0,.slice none 0 0,.bool false,.int .i64 0,.slice none 0 0,.bool false],.bool false]) (by simp [results,Tryz.results89,go_sem,e0,e1,e2,e3,e4,e5]) rfl ?_;exact vx.no HP.out ⟨_,_,_,_,_,_,_,_,_,_,rfl⟩ (yw (x:=0) (A:=none) (k:=0) (c:=0) (s:=false) (y:=0) (B:=none) (k' :=0) (c' :=0) (t:=false) HWR.out (Nat.le_refl _))
         | true=>
           have HPB:=ze hpb2;rw [hpb2] at hpb;clear hpb2
           cases zb1:(b.toList == [48]) with
           | true=>
             have HP:=ze (Yd HI.out.symm (.inr (.inl (by have:=HB.out;rw [if_pos rfl] at this;rw [<- this];exact of_decide_eq_true (zb.symm.trans zb1)))));clear za zb zc;go_wp2_with fail;refine (hpb _).mono ?_;rintro e w2 ⟨rfl,rfl⟩;go_wp2_with fail;have kR2:=yK (x:=0) (A:=none) (k:=0) (c:=0) (s:=false) (y:=0) (B:=none) (k' :=0) (c' :=0) (t:=false) HKR.out;have e0:=kR2.cell 0;have e1:=kR2.cell 1;have e2:=kR2.cell 2;have e3:=kR2.cell 3;have e4:=kR2.cell 4;have e5:=kR2.cell 5;simp only [World.rat] at e0 e1 e2 e3 e4 e5;simp at e0 e1 e2 e3 e4 e5;refine bodyPost_ret (v:=.tuple #[.agg #[.int .i64 0,.slice none 0 0,.bool false,.int .i64 0,.slice none 0 0,.bool false],.bool false]) (by simp [results,Tryz.results89,go_sem,e0,e1,e2,e3,e4,e5]) rfl ?_;exact vx.no HP.out ⟨_,_,_,_,_,_,_,_,_,_,rfl⟩ (yw (x:=0) (A:=none) (k:=0) (c:=0) (s:=false) (y:=0) (B:=none) (k' :=0) (c' :=0) (t:=false) HWR.out (Nat.le_refl _))
           | false=>
             cases zc1:(b.toList == [49]) with
             | true=>
               have HP:=ze (Yd HI.out.symm (.inr (.inr (.inl (by have:=HB.out;rw [if_pos rfl] at this;rw [<- this];exact of_decide_eq_true (zc.symm.trans zc1))))));clear za zb zc;go_wp2_with fail;refine (hpb _).mono ?_;rintro e w2 ⟨rfl,rfl⟩;go_wp2_with fail;have kR2:=yK (x:=0) (A:=none) (k:=0) (c:=0) (s:=false) (y:=0) (B:=none) (k' :=0) (c' :=0) (t:=false) HKR.out;have e0:=kR2.cell 0;have e1:=kR2.cell 1;have e2:=kR2.cell 2;have e3:=kR2.cell 3;have e4:=kR2.cell 4;have e5:=kR2.cell 5;simp only [World.rat] at e0 e1 e2 e3 e4 e5;simp at e0 e1 e2 e3 e4 e5;refine bodyPost_ret (v:=.tuple #[.agg #[.int .i64 0,.slice none 0 0,.bool false,.int .i64 0,.slice none 0 0,.bool false],.bool false]) (by simp [results,Tryz.results89,go_sem,e0,e1,e2,e3,e4,e5]) rfl ?_;exact vx.no HP.out ⟨_,_,_,_,_,_,_,_,_,_,rfl⟩ (yw (x:=0) (A:=none) (k:=0) (c:=0) (s:=false) (y:=0) (B:=none) (k' :=0) (c' :=0) (t:=false) HWR.out (Nat.le_refl _))
             | false=>
               have HBB:=ze (show bts b=ys 47 (zq (bts s)) by rw [HB.out];rfl);have HD:=ze (YI HPB.out);have HP:=ze (zjf HPL.out (fun h=>by rw [<- HN.out] at h;cases h) HI.out.symm (by rw [<- HBB.out];exact HPB.out) (fun h=>by have:=zb.symm.trans zb1;rw [decide_eq_true (HBB.out.trans h)] at this;cases this) (fun h=>by have:=zc.symm.trans zc1;rw [decide_eq_true (HBB.out.trans h)] at this;cases this));have HNZ:=ze (zan (l:=ys 47 (zq (bts s))) (by rw [<- HBB.out];exact HPB.out) (fun h=>by have:=zb.symm.trans zb1;rw [decide_eq_true (HBB.out.trans h)] at this;cases this));have HLD:=ze (zaq (l:=ys 47 (zq (bts s))) (by rw [<- HBB.out];exact HPB.out));have HLN:=ze (zaq HPL.out);have HC:=ze (YI HPL.out);rw [<- HN.out] at HP;have HAS:=ze (show a.size<=50000 by rw [<- zm,HA.out];exact HC.out.2);have HBS:=ze (show b.size<=50000 by rw [<- zm];exact HD.out.2);clear za zb zc;go_wp2_with fail;refine (hpb _).mono ?_;rintro e w2 ⟨rfl,rfl⟩;clear hpb;obtain ⟨dn,hdn⟩:∃ dn,dn=zD (ys 47 (zq (bts s))):=⟨_,rfl⟩;obtain ⟨nn,hnn⟩:∃ nn,nn=zD (yC 47 (zq (bts s))):=⟨_,rfl⟩;rw [<- hdn, <- hnn] at HP
               rw [<- hdn] at HNZ HLD;rw [<- hnn] at HLN;have HDN:=ze hdn;have HNN:=ze hnn;clear hdn hnn;go_wp2_with fail;refine (YA a _ (by rw [HA.out];exact HC.out.1) HAS.out).mono ?_;rintro e w2 ⟨v,rfl,hv,hb2⟩;rw [HA.out, <- HNN.out] at hv;have HV:=ze hv;have HKR2:=ze (HKR.out.below hb2 lR);have HWR2:=ze (ext HWR.out hb2);clear hv hb2 r0 r1 r2 r3 r4 r5 f0 f1 f2 f3 f4 f5;go_wp2_with fail;refine (yj false v _ w2 HV.out).mono ?_;rintro e w3 ⟨v3,rfl,hv3,hb3⟩;obtain ⟨x',A',k',c',ng',rfl,_,_,_⟩:=hv3.form;have hb4:=zg w3 (.cells #[.int .i64 x',.slice A' k' c',.bool ng'] 111);have HV3:=ze (hv3.below hb4);have kR3:=(HKR2.out.below hb3 HKR2.out.lt).below hb4 (HKR2.out.below hb3 HKR2.out.lt).lt;have HWR3:=ze (ext (ext HWR2.out hb3) hb4);have HKR3:=ze kR3;have kX:=Blk.new w3 111 #[.int .i64 x',.slice A' k' c',.bool ng'];have HKX:=ze kX;have lgx:w.heap.size<w3.heap.size:=(HKR2.out.below hb3 HKR2.out.lt).lt;clear hb3 hv3 hb4 kR3 kX lR;go_wp2_with fail;generalize hgx:w3.heap.size=gx at HKX lgx |-
               generalize w3.alloc (.cells #[.int .i64 x',.slice A' k' c',.bool ng'] 111)=W3 at HV3 HKR3 HWR3 HKX |-;clear hgx;refine (YA b _ HD.out.1 HBS.out).mono ?_;rintro e w4 ⟨v4,rfl,hv4,hb4⟩;rw [HBB.out, <- HDN.out] at hv4;have HV4:=ze hv4;have HV3a:=ze (HV3.out.below hb4);have HKR4:=ze (HKR3.out.below hb4 HKR3.out.lt);have HKX4:=ze (HKX.out.below hb4 HKX.out.lt);have HWR4:=ze (ext HWR3.out hb4);clear hv4 hb4;go_wp2_with fail;refine (yj false v4 _ w4 HV4.out).mono ?_;rintro e w5 ⟨v5,rfl,hv5,hb5⟩;obtain ⟨y',B',m',d',nh',rfl,_,_,_⟩:=hv5.form;have hb6:=zg w5 (.cells #[.int .i64 y',.slice B' m' d',.bool nh'] 111);have hbb:=ext hb5 hb6;have HV5:=ze (hv5.below hb6);have HV3b:=ze (HV3a.out.below hbb);have HKR5:=ze (HKR4.out.below hbb HKR4.out.lt);have HKX5:=ze (HKX4.out.below hbb HKX4.out.lt);have HWR5:=ze (ext HWR4.out hbb);have HKY5:=ze (Blk.new w5 111 #[.int .i64 y',.slice B' m' d',.bool nh']);have lgy:w.heap.size<w5.heap.size:=(HKR4.out.below hb5 HKR4.out.lt).lt;have x0:=HKX5.out.cell 0;have x1:=HKX5.out.cell 1;have x2:=HKX5.out.cell 2;simp at x0 x1 x2;clear hb5 hb6 hbb hv5
               go_wp2_with fail;generalize hgy:w5.heap.size=gy at HKY5 lgy |-;generalize w5.alloc (.cells #[.int .i64 y',.slice B' m' d',.bool nh'] 111)=W5 at HV5 HV3b HKR5 HKX5 HWR5 HKY5 x0 x1 x2 |-;clear hgy;refine (za9 _ _ (signed false nn) (signed false dn) _ HV3b.out HV5.out (by have:=HNZ.out;unfold signed;simp;omega) (Nat.le_trans (vN HLN.out) (by omega)) (Nat.le_trans (vN HLD.out) (by omega))).mono ?_;rintro e w6 ⟨v6,rfl,hq,hb7⟩;rw [YY] at hq;obtain ⟨q,hqq⟩:∃ q,q=xS false nn dn:=⟨_,rfl⟩;rw [<- hqq] at hq HP;obtain ⟨x5,A5,k5,c5,n5,x6,A6,k6,c6,n6,rfl,hq1,hq2⟩:=hq;have hb8:=zg w6 (.cells #[.int .i64 x5,.slice A5 k5 c5,.bool n5,.int .i64 x6,.slice A6 k6 c6,.bool n6] 113);have hbb:=ext hb7 hb8;have HQ1:=ze (hq1.below hb8);have HQ2:=ze (hq2.below hb8);have HV7:=ze (HV5.out.below hbb);have HKR7:=ze (show Xm _ w.heap.size from ⟨_,_,_,_,_,_,_,_,_,_,HKR5.out.below hbb HKR5.out.lt⟩);have HKY7:=ze (HKY5.out.below hbb HKY5.out.lt);have HWR7:=ze (ext HWR5.out hbb);have HKQ:=ze (Blk.new w6 113 #[.int .i64 x5,.slice A5 k5 c5,.bool n5,.int .i64 x6,.slice A6 k6 c6,.bool n6])
               have lgq:w.heap.size<w6.heap.size:=(HKR5.out.below hb7 HKR5.out.lt).lt
               have HLQ:=ze (show len 4294967296 (q.den:Int).natAbs<=67108864 by
                rw [hqq, <- YY];have h9:=V8 (zn:=signed false nn) (zd:=signed false dn) (by have:=HNZ.out;unfold signed;simp;omega) (Nat.le_trans (vN HLD.out) (by omega));rw [h9.2.1]
                refine Nat.le_trans (vV (by omega) (Int.natAbs_tdiv_le_natAbs _ _)) (Nat.le_trans (vN HLD.out) (by omega)))
               clear hb7 hb8 hbb hq1 hq2 x0 x1 x2 HKX HKX4 HKX5 HKR3 HKR4 HKR5 HKY5 HV3 HV3a HV3b HV5 HWR HWR2 HWR3 HWR4 HWR5 HKR HKR2 hqq;go_wp2_with fail;generalize hgq:w6.heap.size=gq at HKQ lgq |-;generalize w6.alloc (.cells #[.int .i64 x5,.slice A5 k5 c5,.bool n5,.int .i64 x6,.slice A6 k6 c6,.bool n6] 113)=W7 at HQ1 HQ2 HV7 HKR7 HKY7 HWR7 HKQ |-;clear hgq;have hlq:=HKQ.out.lt;have hly:=HKY7.out.lt;have q0:=HKQ.out.cell 0;have q1:=HKQ.out.cell 1;have q2:=HKQ.out.cell 2;have q3:=HKQ.out.cell 3;have q4:=HKQ.out.cell 4;have q5:=HKQ.out.cell 5;have y0:=HKY7.out.cell 0;have y1:=HKY7.out.cell 1;have y2:=HKY7.out.cell 2;simp at q0 q1 q2 q3 q4 q5 y0 y1 y2;have HRES:=ze (show Xm W7.drew w.heap.size from HKR7.out);have HWX:=ze (show Below w.heap.size w W7.drew from zo HWR7.out 1);have HY1:=ze (show yt W7.drew _ q.num from HQ1.out.below (zw W7 1));have HY2:=ze (show yt W7.drew _ (q.den:Int) from HQ2.out.below (zw W7 1));have HY3:=ze (show yt W7.drew _ (signed false dn) from HV7.out.below (zw W7 1));clear HQ1 HQ2 HV7
               go_region_held3 (fun w' =>w'.cell? ⟨gq,0,none⟩=some (.int .i64 x5)/\w'.cell? ⟨gq,1,none⟩=some (.slice A5 k5 c5)/\w'.cell? ⟨gq,2,none⟩=some (.bool n5)/\w'.cell? ⟨gq,3,none⟩=some (.int .i64 x6)/\w'.cell? ⟨gq,4,none⟩=some (.slice A6 k6 c6)/\w'.cell? ⟨gq,5,none⟩=some (.bool n6)/\
                w'.cell? ⟨gy,0,none⟩=some (.int .i64 y')/\w'.cell? ⟨gy,1,none⟩=some (.slice B' m' d')/\w'.cell? ⟨gy,2,none⟩=some (.bool nh')/\gq<w'.heap.size/\gy<w'.heap.size/\Hid (Xm w' w.heap.size)/\Hid (Below w.heap.size w w')/\Hid (yt w' (.agg #[.int .i64 x5,.slice A5 k5 c5,.bool n5]) q.num)/\Hid (yt w' (.agg #[.int .i64 x6,.slice A6 k6 c6,.bool n6]) (q.den:Int))/\Hid (yt w' (.agg #[.int .i64 y',.slice B' m' d',.bool nh']) (signed false dn)))
                (first
                  | with_reducible exact ⟨by go_keep,by go_keep,by go_keep,by go_keep,by go_keep,by go_keep,by go_keep,by go_keep,by go_keep,by first | (simp;done) | (simp;assumption),by first | (simp;done) | (simp;assumption),HRES,HWX,HY1,HY2,HY3⟩
                  | (go_split_ands;with_reducible exact ⟨z7 (by omega) ‹_›,z7 (by omega) ‹_›,z7 (by omega) ‹_›,z7 (by omega) ‹_›,z7 (by omega) ‹_›,z7 (by omega) ‹_›,z7 (by omega) ‹_›,z7 (by omega) ‹_›,z7 (by omega) ‹_›,Zs ‹_›,Zs ‹_›,Z5 ‹_›,vC (by omega) ‹_›,ZT ‹_› ‹_›,ZT ‹_› ‹_›,ZT ‹_› ‹_›⟩)
                  | (go_split_ands;with_reducible exact ⟨zj ‹_› ‹_› ‹_›,zj ‹_› ‹_› ‹_›,zj ‹_› ‹_› ‹_›,zj ‹_› ‹_› ‹_›,zj ‹_› ‹_› ‹_›,zj ‹_› ‹_› ‹_›,zj ‹_› ‹_› ‹_›,zj ‹_› ‹_› ‹_›,zj ‹_› ‹_› ‹_›,zA ‹_› ‹_›,zA ‹_› ‹_›,ZG ‹_› ‹_›,zu ‹_› ‹_›,zcb ‹_› ‹_›,zcb ‹_› ‹_›,zcb ‹_› ‹_›⟩)
                  | go_keep)
                (first
                  | (go_at_call 117;refine (zlu _ _ (q.den:Int) (signed false dn) _ (zB (by go_split_ands;assumption)) (zB (by go_split_ands;assumption)) HLQ.out (Nat.le_trans (vN HLD.out) (by omega))).mono ?_;rintro e wo ⟨rfl,hbo⟩;obtain ⟨xr,Ar,kr,cr,sr,yr,Br,krx,crx,tr,kR⟩:=(ZG (g:=w.heap.size) hbo (by go_split_ands;assumption)).out;have r0:=kR.cell 0;have r1:=kR.cell 1;have r2:=kR.cell 2;have r3:=kR.cell 3;have r4:=kR.cell 4;have r5:=kR.cell 5;have f0:=kR.frozen 0;have f1:=kR.frozen 1;have f2:=kR.frozen 2;have f3:=kR.frozen 3;have f4:=kR.frozen 4;have f5:=kR.frozen 5;simp at r0 r1 r2 r3 r4 r5;have HKR:=ze kR;clear kR))
               all_goals
                go_split_ands;have kR2:=yK (x:=x5) (A:=A5) (k:=k5) (c:=c5) (s:=n5) (y:=x6) (B:=A6) (k' :=k6) (c' :=c6) (t:=n6) HKR.out;have hR1:=zB (by assumption:Hid (yt (World.rat wo w.heap.size x5 A5 k5 c5 n5 x6 A6 k6 c6 n6) (.agg #[.int .i64 x5,.slice A5 k5 c5,.bool n5]) q.num));have hR2:=zB (by assumption:Hid (yt (World.rat wo w.heap.size x5 A5 k5 c5 n5 x6 A6 k6 c6 n6) (.agg #[.int .i64 x6,.slice A6 k6 c6,.bool n6]) (q.den:Int)));have hRW:=zB (by assumption:Hid (Below w.heap.size w (World.rat wo w.heap.size x5 A5 k5 c5 n5 x6 A6 k6 c6 n6)));have e0:=kR2.cell 0;have e1:=kR2.cell 1;have e2:=kR2.cell 2;have e3:=kR2.cell 3;have e4:=kR2.cell 4;have e5:=kR2.cell 5;simp only [World.rat] at e0 e1 e2 e3 e4 e5;simp at e0 e1 e2 e3 e4 e5;go_wp2;refine bodyPost_ret (v:=.tuple #[.agg #[.int .i64 x5,.slice A5 k5 c5,.bool n5,.int .i64 x6,.slice A6 k6 c6,.bool n6],.bool (zQ (q.den:Int) (signed false dn) == 0)]) (by simp [results,Tryz.results89,go_sem,e0,e1,e2,e3,e4,e5]) rfl ?_;exact vx.maybe HP.out ⟨_,_,_,_,_,_,_,_,_,_,rfl,hR1,hR2⟩ hRW
   | true=>
     cases za1:(a.toList == [48]) with
     | true=>
       have HP:=ze (zub HN.out.symm (of_decide_eq_true (by rw [<- za];exact za1)));clear za zb zc hpb;go_wp2_with fail;have kR2:=yK (x:=0) (A:=none) (k:=0) (c:=0) (s:=false) (y:=0) (B:=none) (k' :=0) (c' :=0) (t:=false) HKR.out;have e0:=kR2.cell 0;have e1:=kR2.cell 1;have e2:=kR2.cell 2;have e3:=kR2.cell 3;have e4:=kR2.cell 4;have e5:=kR2.cell 5;simp only [World.rat] at e0 e1 e2 e3 e4 e5;simp at e0 e1 e2 e3 e4 e5;refine bodyPost_ret (v:=.tuple #[.agg #[.int .i64 0,.slice none 0 0,.bool false,.int .i64 0,.slice none 0 0,.bool false],.bool false]) (by simp [results,Tryz.results89,go_sem,e0,e1,e2,e3,e4,e5]) rfl ?_;exact vx.no HP.out ⟨_,_,_,_,_,_,_,_,_,_,rfl⟩ (yw (x:=0) (A:=none) (k:=0) (c:=0) (s:=false) (y:=0) (B:=none) (k' :=0) (c' :=0) (t:=false) HWR.out (Nat.le_refl _))
     | false=>
       cases is_ with
       | false=>
         have HP:=ze (zb8 HPL.out (fun _ h=>by have:=za.symm.trans za1;rw [decide_eq_true h] at this;cases this) HI.out.symm);have HC:=ze (YI HPL.out);rw [<- HN.out] at HP;have HAS:=ze (show a.size<=50000 by rw [<- zm,HA.out];exact HC.out.2);clear za zb zc hpb;go_wp2_with fail;refine (YA a _ (by rw [HA.out];exact HC.out.1) HAS.out).mono ?_;rintro e w2 ⟨v,rfl,hv,hb2⟩;rw [HA.out] at hv;have HV:=ze hv;have HKR2:=ze (HKR.out.below hb2 lR);have HWR2:=ze (ext HWR.out hb2);clear hv hb2 r0 r1 r2 r3 r4 r5 f0 f1 f2 f3 f4 f5;go_wp2_with fail;refine (yj true v _ w2 HV.out).mono ?_;rintro e w3 ⟨v3,rfl,hv3,hb3⟩;obtain ⟨x',A',k',c',ng',rfl,_,_,_⟩:=hv3.form;have hb4:=zg w3 (.cells #[.int .i64 x',.slice A' k' c',.bool ng'] 111);have HV3:=ze (hv3.below hb4);have kR3:=(HKR2.out.below hb3 HKR2.out.lt).below hb4 (HKR2.out.below hb3 HKR2.out.lt).lt;have HWR3:=ze (ext (ext HWR2.out hb3) hb4);have HKR3:=ze kR3;have r0:=kR3.cell 0;have r1:=kR3.cell 1;have r2:=kR3.cell 2;have r3:=kR3.cell 3;have r4:=kR3.cell 4;have r5:=kR3.cell 5;have f0:=kR3.frozen 0;have f1:=kR3.frozen 1;have f2:=kR3.frozen 2
         have f3:=kR3.frozen 3;have f4:=kR3.frozen 4;have f5:=kR3.frozen 5;simp at r0 r1 r2 r3 r4 r5;have kX:=Blk.new w3 111 #[.int .i64 x',.slice A' k' c',.bool ng'];have g0:=kX.cell 0;have g1:=kX.cell 1;have g2:=kX.cell 2;simp at g0 g1 g2;clear hb3 hv3 hb4 kR3 kX lR;go_wp2_with fail;have kR4:=yK (x:=x') (A:=A') (k:=k') (c:=c') (s:=ng') (y:=1) (B:=none) (k' :=0) (c' :=0) (t:=false) HKR3.out;have e0:=kR4.cell 0;have e1:=kR4.cell 1;have e2:=kR4.cell 2;have e3:=kR4.cell 3;have e4:=kR4.cell 4;have e5:=kR4.cell 5;simp only [World.rat] at e0 e1 e2 e3 e4 e5;simp at e0 e1 e2 e3 e4 e5;refine bodyPost_ret (v:=.tuple #[.agg #[.int .i64 x',.slice A' k' c',.bool ng',.int .i64 1,.slice none 0 0,.bool false],.bool true]) (by simp [results,Tryz.results89,go_sem,e0,e1,e2,e3,e4,e5]) rfl ?_;refine vx.yes HP.out ⟨_,_,_,_,_,_,_,_,_,_,rfl,?_,?_⟩ (yw HWR3.out (Nat.le_refl _))
         . rw [(Xt _ _).1]
           exact yx HV3.out HKR3.out
         rw [(Xt _ _).2]
         exact zmj _
       | true=>
         cases hpb2:ye (bts b) with
         | false=>
           have HP:=ze (Yd HI.out.symm (.inl (by have:=HB.out;rw [if_pos rfl] at this;rw [<- this];exact hpb2)));rw [hpb2] at hpb;clear hpb2 za zb zc;go_wp2_with fail;refine (hpb _).mono ?_;rintro e w2 ⟨rfl,rfl⟩;go_wp2_with fail;have kR2:=yK (x:=0) (A:=none) (k:=0) (c:=0) (s:=false) (y:=0) (B:=none) (k' :=0) (c' :=0) (t:=false) HKR.out;have e0:=kR2.cell 0;have e1:=kR2.cell 1;have e2:=kR2.cell 2;have e3:=kR2.cell 3;have e4:=kR2.cell 4;have e5:=kR2.cell 5;simp only [World.rat] at e0 e1 e2 e3 e4 e5;simp at e0 e1 e2 e3 e4 e5;refine bodyPost_ret (v:=.tuple #[.agg #[.int .i64 0,.slice none 0 0,.bool false,.int .i64 0,.slice none 0 0,.bool false],.bool false]) (by simp [results,Tryz.results89,go_sem,e0,e1,e2,e3,e4,e5]) rfl ?_;exact vx.no HP.out ⟨_,_,_,_,_,_,_,_,_,_,rfl⟩ (yw (x:=0) (A:=none) (k:=0) (c:=0) (s:=false) (y:=0) (B:=none) (k' :=0) (c' :=0) (t:=false) HWR.out (Nat.le_refl _))
         | true=>
           have HPB:=ze hpb2;rw [hpb2] at hpb;clear hpb2
           cases zb1:(b.toList == [48]) with
           | true=>
             have HP:=ze (Yd HI.out.symm (.inr (.inl (by have:=HB.out;rw [if_pos rfl] at this;rw [<- this];exact of_decide_eq_true (zb.symm.trans zb1)))));clear za zb zc;go_wp2_with fail;refine (hpb _).mono ?_;rintro e w2 ⟨rfl,rfl⟩;go_wp2_with fail;have kR2:=yK (x:=0) (A:=none) (k:=0) (c:=0) (s:=false) (y:=0) (B:=none) (k' :=0) (c' :=0) (t:=false) HKR.out;have e0:=kR2.cell 0;have e1:=kR2.cell 1;have e2:=kR2.cell 2;have e3:=kR2.cell 3;have e4:=kR2.cell 4;have e5:=kR2.cell 5;simp only [World.rat] at e0 e1 e2 e3 e4 e5;simp at e0 e1 e2 e3 e4 e5;refine bodyPost_ret (v:=.tuple #[.agg #[.int .i64 0,.slice none 0 0,.bool false,.int .i64 0,.slice none 0 0,.bool false],.bool false]) (by simp [results,Tryz.results89,go_sem,e0,e1,e2,e3,e4,e5]) rfl ?_;exact vx.no HP.out ⟨_,_,_,_,_,_,_,_,_,_,rfl⟩ (yw (x:=0) (A:=none) (k:=0) (c:=0) (s:=false) (y:=0) (B:=none) (k' :=0) (c' :=0) (t:=false) HWR.out (Nat.le_refl _))
           | false=>
             cases zc1:(b.toList == [49]) with
             | true=>
               have HP:=ze (Yd HI.out.symm (.inr (.inr (.inl (by have:=HB.out;rw [if_pos rfl] at this;rw [<- this];exact of_decide_eq_true (zc.symm.trans zc1))))));clear za zb zc;go_wp2_with fail;refine (hpb _).mono ?_;rintro e w2 ⟨rfl,rfl⟩;go_wp2_with fail;have kR2:=yK (x:=0) (A:=none) (k:=0) (c:=0) (s:=false) (y:=0) (B:=none) (k' :=0) (c' :=0) (t:=false) HKR.out;have e0:=kR2.cell 0;have e1:=kR2.cell 1;have e2:=kR2.cell 2;have e3:=kR2.cell 3;have e4:=kR2.cell 4;have e5:=kR2.cell 5;simp only [World.rat] at e0 e1 e2 e3 e4 e5;simp at e0 e1 e2 e3 e4 e5;refine bodyPost_ret (v:=.tuple #[.agg #[.int .i64 0,.slice none 0 0,.bool false,.int .i64 0,.slice none 0 0,.bool false],.bool false]) (by simp [results,Tryz.results89,go_sem,e0,e1,e2,e3,e4,e5]) rfl ?_;exact vx.no HP.out ⟨_,_,_,_,_,_,_,_,_,_,rfl⟩ (yw (x:=0) (A:=none) (k:=0) (c:=0) (s:=false) (y:=0) (B:=none) (k' :=0) (c' :=0) (t:=false) HWR.out (Nat.le_refl _))
             | false=>
               have HBB:=ze (show bts b=ys 47 (zq (bts s)) by rw [HB.out];rfl);have HD:=ze (YI HPB.out);have HP:=ze (zjf HPL.out (fun _ h=>by have:=za.symm.trans za1;rw [decide_eq_true h] at this;cases this) HI.out.symm (by rw [<- HBB.out];exact HPB.out) (fun h=>by have:=zb.symm.trans zb1;rw [decide_eq_true (HBB.out.trans h)] at this;cases this) (fun h=>by have:=zc.symm.trans zc1;rw [decide_eq_true (HBB.out.trans h)] at this;cases this));have HNZ:=ze (zan (l:=ys 47 (zq (bts s))) (by rw [<- HBB.out];exact HPB.out) (fun h=>by have:=zb.symm.trans zb1;rw [decide_eq_true (HBB.out.trans h)] at this;cases this));have HLD:=ze (zaq (l:=ys 47 (zq (bts s))) (by rw [<- HBB.out];exact HPB.out));have HLN:=ze (zaq HPL.out);have HC:=ze (YI HPL.out);rw [<- HN.out] at HP;have HAS:=ze (show a.size<=50000 by rw [<- zm,HA.out];exact HC.out.2);have HBS:=ze (show b.size<=50000 by rw [<- zm];exact HD.out.2);clear za zb zc;go_wp2_with fail;refine (hpb _).mono ?_;rintro e w2 ⟨rfl,rfl⟩;clear hpb;obtain ⟨dn,hdn⟩:∃ dn,dn=zD (ys 47 (zq (bts s))):=⟨_,rfl⟩
               obtain ⟨nn,hnn⟩:∃ nn,nn=zD (yC 47 (zq (bts s))):=⟨_,rfl⟩;rw [<- hdn, <- hnn] at HP;rw [<- hdn] at HNZ HLD;rw [<- hnn] at HLN;have HDN:=ze hdn;have HNN:=ze hnn;clear hdn hnn;go_wp2_with fail;refine (YA a _ (by rw [HA.out];exact HC.out.1) HAS.out).mono ?_;rintro e w2 ⟨v,rfl,hv,hb2⟩;rw [HA.out, <- HNN.out] at hv;have HV:=ze hv;have HKR2:=ze (HKR.out.below hb2 lR);have HWR2:=ze (ext HWR.out hb2);clear hv hb2 r0 r1 r2 r3 r4 r5 f0 f1 f2 f3 f4 f5;go_wp2_with fail;refine (yj true v _ w2 HV.out).mono ?_;rintro e w3 ⟨v3,rfl,hv3,hb3⟩;obtain ⟨x',A',k',c',ng',rfl,_,_,_⟩:=hv3.form;have hb4:=zg w3 (.cells #[.int .i64 x',.slice A' k' c',.bool ng'] 111);have HV3:=ze (hv3.below hb4);have kR3:=(HKR2.out.below hb3 HKR2.out.lt).below hb4 (HKR2.out.below hb3 HKR2.out.lt).lt;have HWR3:=ze (ext (ext HWR2.out hb3) hb4);have HKR3:=ze kR3;have kX:=Blk.new w3 111 #[.int .i64 x',.slice A' k' c',.bool ng'];have HKX:=ze kX;have lgx:w.heap.size<w3.heap.size:=(HKR2.out.below hb3 HKR2.out.lt).lt;clear hb3 hv3 hb4 kR3 kX lR;go_wp2_with fail;generalize hgx:w3.heap.size=gx at HKX lgx |-
               generalize w3.alloc (.cells #[.int .i64 x',.slice A' k' c',.bool ng'] 111)=W3 at HV3 HKR3 HWR3 HKX |-;clear hgx;refine (YA b _ HD.out.1 HBS.out).mono ?_;rintro e w4 ⟨v4,rfl,hv4,hb4⟩;rw [HBB.out, <- HDN.out] at hv4;have HV4:=ze hv4;have HV3a:=ze (HV3.out.below hb4);have HKR4:=ze (HKR3.out.below hb4 HKR3.out.lt);have HKX4:=ze (HKX.out.below hb4 HKX.out.lt);have HWR4:=ze (ext HWR3.out hb4);clear hv4 hb4;go_wp2_with fail;refine (yj false v4 _ w4 HV4.out).mono ?_;rintro e w5 ⟨v5,rfl,hv5,hb5⟩;obtain ⟨y',B',m',d',nh',rfl,_,_,_⟩:=hv5.form;have hb6:=zg w5 (.cells #[.int .i64 y',.slice B' m' d',.bool nh'] 111);have hbb:=ext hb5 hb6;have HV5:=ze (hv5.below hb6);have HV3b:=ze (HV3a.out.below hbb);have HKR5:=ze (HKR4.out.below hbb HKR4.out.lt);have HKX5:=ze (HKX4.out.below hbb HKX4.out.lt);have HWR5:=ze (ext HWR4.out hbb);have HKY5:=ze (Blk.new w5 111 #[.int .i64 y',.slice B' m' d',.bool nh']);have lgy:w.heap.size<w5.heap.size:=(HKR4.out.below hb5 HKR4.out.lt).lt;have x0:=HKX5.out.cell 0;have x1:=HKX5.out.cell 1;have x2:=HKX5.out.cell 2;simp at x0 x1 x2;clear hb5 hb6 hbb hv5
               go_wp2_with fail;generalize hgy:w5.heap.size=gy at HKY5 lgy |-;generalize w5.alloc (.cells #[.int .i64 y',.slice B' m' d',.bool nh'] 111)=W5 at HV5 HV3b HKR5 HKX5 HWR5 HKY5 x0 x1 x2 |-;clear hgy;refine (za9 _ _ (signed true nn) (signed false dn) _ HV3b.out HV5.out (by have:=HNZ.out;unfold signed;simp;omega) (Nat.le_trans (vN HLN.out) (by omega)) (Nat.le_trans (vN HLD.out) (by omega))).mono ?_;rintro e w6 ⟨v6,rfl,hq,hb7⟩;rw [YY] at hq;obtain ⟨q,hqq⟩:∃ q,q=xS true nn dn:=⟨_,rfl⟩;rw [<- hqq] at hq HP;obtain ⟨x5,A5,k5,c5,n5,x6,A6,k6,c6,n6,rfl,hq1,hq2⟩:=hq;have hb8:=zg w6 (.cells #[.int .i64 x5,.slice A5 k5 c5,.bool n5,.int .i64 x6,.slice A6 k6 c6,.bool n6] 113);have hbb:=ext hb7 hb8;have HQ1:=ze (hq1.below hb8);have HQ2:=ze (hq2.below hb8);have HV7:=ze (HV5.out.below hbb);have HKR7:=ze (show Xm _ w.heap.size from ⟨_,_,_,_,_,_,_,_,_,_,HKR5.out.below hbb HKR5.out.lt⟩);have HKY7:=ze (HKY5.out.below hbb HKY5.out.lt);have HWR7:=ze (ext HWR5.out hbb);have HKQ:=ze (Blk.new w6 113 #[.int .i64 x5,.slice A5 k5 c5,.bool n5,.int .i64 x6,.slice A6 k6 c6,.bool n6])
               have lgq:w.heap.size<w6.heap.size:=(HKR5.out.below hb7 HKR5.out.lt).lt
               have HLQ:=ze (show len 4294967296 (q.den:Int).natAbs<=67108864 by
                rw [hqq, <- YY];have h9:=V8 (zn:=signed true nn) (zd:=signed false dn) (by have:=HNZ.out;unfold signed;simp;omega) (Nat.le_trans (vN HLD.out) (by omega));rw [h9.2.1]
                refine Nat.le_trans (vV (by omega) (Int.natAbs_tdiv_le_natAbs _ _)) (Nat.le_trans (vN HLD.out) (by omega)))
               clear hb7 hb8 hbb hq1 hq2 x0 x1 x2 HKX HKX4 HKX5 HKR3 HKR4 HKR5 HKY5 HV3 HV3a HV3b HV5 HWR HWR2 HWR3 HWR4 HWR5 HKR HKR2 hqq;go_wp2_with fail;generalize hgq:w6.heap.size=gq at HKQ lgq |-;generalize w6.alloc (.cells #[.int .i64 x5,.slice A5 k5 c5,.bool n5,.int .i64 x6,.slice A6 k6 c6,.bool n6] 113)=W7 at HQ1 HQ2 HV7 HKR7 HKY7 HWR7 HKQ |-;clear hgq;have hlq:=HKQ.out.lt;have hly:=HKY7.out.lt;have q0:=HKQ.out.cell 0;have q1:=HKQ.out.cell 1;have q2:=HKQ.out.cell 2;have q3:=HKQ.out.cell 3;have q4:=HKQ.out.cell 4;have q5:=HKQ.out.cell 5;have y0:=HKY7.out.cell 0;have y1:=HKY7.out.cell 1;have y2:=HKY7.out.cell 2;simp at q0 q1 q2 q3 q4 q5 y0 y1 y2;have HRES:=ze (show Xm W7.drew w.heap.size from HKR7.out);have HWX:=ze (show Below w.heap.size w W7.drew from zo HWR7.out 1);have HY1:=ze (show yt W7.drew _ q.num from HQ1.out.below (zw W7 1));have HY2:=ze (show yt W7.drew _ (q.den:Int) from HQ2.out.below (zw W7 1));have HY3:=ze (show yt W7.drew _ (signed false dn) from HV7.out.below (zw W7 1));clear HQ1 HQ2 HV7
               go_region_held3 (fun w' =>w'.cell? ⟨gq,0,none⟩=some (.int .i64 x5)/\w'.cell? ⟨gq,1,none⟩=some (.slice A5 k5 c5)/\w'.cell? ⟨gq,2,none⟩=some (.bool n5)/\w'.cell? ⟨gq,3,none⟩=some (.int .i64 x6)/\w'.cell? ⟨gq,4,none⟩=some (.slice A6 k6 c6)/\w'.cell? ⟨gq,5,none⟩=some (.bool n6)/\
                w'.cell? ⟨gy,0,none⟩=some (.int .i64 y')/\w'.cell? ⟨gy,1,none⟩=some (.slice B' m' d')/\w'.cell? ⟨gy,2,none⟩=some (.bool nh')/\gq<w'.heap.size/\gy<w'.heap.size/\Hid (Xm w' w.heap.size)/\Hid (Below w.heap.size w w')/\Hid (yt w' (.agg #[.int .i64 x5,.slice A5 k5 c5,.bool n5]) q.num)/\Hid (yt w' (.agg #[.int .i64 x6,.slice A6 k6 c6,.bool n6]) (q.den:Int))/\Hid (yt w' (.agg #[.int .i64 y',.slice B' m' d',.bool nh']) (signed false dn)))
                (first
                  | with_reducible exact ⟨by go_keep,by go_keep,by go_keep,by go_keep,by go_keep,by go_keep,by go_keep,by go_keep,by go_keep,by first | (simp;done) | (simp;assumption),by first | (simp;done) | (simp;assumption),HRES,HWX,HY1,HY2,HY3⟩
                  | (go_split_ands;with_reducible exact ⟨z7 (by omega) ‹_›,z7 (by omega) ‹_›,z7 (by omega) ‹_›,z7 (by omega) ‹_›,z7 (by omega) ‹_›,z7 (by omega) ‹_›,z7 (by omega) ‹_›,z7 (by omega) ‹_›,z7 (by omega) ‹_›,Zs ‹_›,Zs ‹_›,Z5 ‹_›,vC (by omega) ‹_›,ZT ‹_› ‹_›,ZT ‹_› ‹_›,ZT ‹_› ‹_›⟩)
                  | (go_split_ands;with_reducible exact ⟨zj ‹_› ‹_› ‹_›,zj ‹_› ‹_› ‹_›,zj ‹_› ‹_› ‹_›,zj ‹_› ‹_› ‹_›,zj ‹_› ‹_› ‹_›,zj ‹_› ‹_› ‹_›,zj ‹_› ‹_› ‹_›,zj ‹_› ‹_› ‹_›,zj ‹_› ‹_› ‹_›,zA ‹_› ‹_›,zA ‹_› ‹_›,ZG ‹_› ‹_›,zu ‹_› ‹_›,zcb ‹_› ‹_›,zcb ‹_› ‹_›,zcb ‹_› ‹_›⟩)
                  | go_keep)
                (first
                  | (go_at_call 117;refine (zlu _ _ (q.den:Int) (signed false dn) _ (zB (by go_split_ands;assumption)) (zB (by go_split_ands;assumption)) HLQ.out (Nat.le_trans (vN HLD.out) (by omega))).mono ?_;rintro e wo ⟨rfl,hbo⟩;obtain ⟨xr,Ar,kr,cr,sr,yr,Br,krx,crx,tr,kR⟩:=(ZG (g:=w.heap.size) hbo (by go_split_ands;assumption)).out;have r0:=kR.cell 0;have r1:=kR.cell 1;have r2:=kR.cell 2;have r3:=kR.cell 3;have r4:=kR.cell 4;have r5:=kR.cell 5;have f0:=kR.frozen 0;have f1:=kR.frozen 1;have f2:=kR.frozen 2;have f3:=kR.frozen 3;have f4:=kR.frozen 4;have f5:=kR.frozen 5;simp at r0 r1 r2 r3 r4 r5;have HKR:=ze kR;clear kR))
               all_goals
                go_split_ands;have kR2:=yK (x:=x5) (A:=A5) (k:=k5) (c:=c5) (s:=n5) (y:=x6) (B:=A6) (k' :=k6) (c' :=c6) (t:=n6) HKR.out;have hR1:=zB (by assumption:Hid (yt (World.rat wo w.heap.size x5 A5 k5 c5 n5 x6 A6 k6 c6 n6) (.agg #[.int .i64 x5,.slice A5 k5 c5,.bool n5]) q.num));have hR2:=zB (by assumption:Hid (yt (World.rat wo w.heap.size x5 A5 k5 c5 n5 x6 A6 k6 c6 n6) (.agg #[.int .i64 x6,.slice A6 k6 c6,.bool n6]) (q.den:Int)));have hRW:=zB (by assumption:Hid (Below w.heap.size w (World.rat wo w.heap.size x5 A5 k5 c5 n5 x6 A6 k6 c6 n6)));have e0:=kR2.cell 0;have e1:=kR2.cell 1;have e2:=kR2.cell 2;have e3:=kR2.cell 3;have e4:=kR2.cell 4;have e5:=kR2.cell 5;simp only [World.rat] at e0 e1 e2 e3 e4 e5;simp at e0 e1 e2 e3 e4 e5;go_wp2;refine bodyPost_ret (v:=.tuple #[.agg #[.int .i64 x5,.slice A5 k5 c5,.bool n5,.int .i64 x6,.slice A6 k6 c6,.bool n6],.bool (zQ (q.den:Int) (signed false dn) == 0)]) (by simp [results,Tryz.results89,go_sem,e0,e1,e2,e3,e4,e5]) rfl ?_;exact vx.maybe HP.out ⟨_,_,_,_,_,_,_,_,_,_,rfl,hR1,hR2⟩ hRW
theorem zei (s:ByteArray) (w:World) (hs:s.size<=1073741824):
 Calls Tryz.prog 69 #[.string s] w (vO w (.bool (zp (bts s)).isSome)):=by
 have hr:=fun w=>YQ s w hs
 go_enter Tryz.func69,Tryz.ntmps69
 go_wp2_with fail
 refine (hr _).mono ?_
 rintro e w1 ⟨v,b,rfl,⟨x,A,k,c,s',y,B,k',c',t,rfl⟩,hb,_,hb1⟩
 have HB:=ze hb
 have HW:=ze hb1
 clear hb hb1 hr
 go_wp2_with fail
 go_ret
 exact ⟨z0 HB.out.symm,ext HW.out (zg _ _)⟩
def zy0 (w:World) (la lb:List UInt8) (e:Ending) (w' :World):Prop:=
 ∃ v1 v2 b,e= .returned (.tuple #[v1,v2,.bool b])/\zy4 v1/\zy4 v2/\b=((zp la).isSome && (zp lb).isSome)/\(∀ q,zp la=some q->xR w' v1 q)/\(∀ q,zp lb=some q->xR w' v2 q)/\Below w.heap.size w w'
theorem xR.stored {W:World} {g:Nat} {v:Value} {q:Rat} {x y x0 y0:Int} {A B A0 B0:Option Addr} {k c k' c' k0 c0 k1 c1:Nat} {s t s0 t0:Bool} {t' :TypeId} (h:xR W v q)
 (hk:Blk W g t' #[.int .i64 x0,.slice A0 k0 c0,.bool s0,.int .i64 y0,.slice B0 k1 c1,.bool t0]):xR (World.rat W g x A k c s y B k' c' t) v q:=by
 obtain ⟨x5,A5,k5,c5,s5,y5,B5,k6,c6,t5,rfl,h1,h2⟩:=h
 exact ⟨_,_,_,_,_,_,_,_,_,_,rfl,yx h1 hk,yx h2 hk⟩
theorem zci (a b:ByteArray) (w:World) (ha:a.size<=1073741824) (hb:b.size<=1073741824):
 Calls Tryz.prog 104 #[.string a,.string b] w (zy0 w (bts a) (bts b)):=by
 have hr1:=fun w=>YQ a w ha
 have hr2:=fun w=>YQ b w hb
 have kA:=(Blk.new w 113 #[.int .i64 0,.slice none 0 0,.bool false,.int .i64 0,.slice none 0 0,.bool false]).alloc (.cells #[.int .i64 0,.slice none 0 0,.bool false,.int .i64 0,.slice none 0 0,.bool false] 113)
 have kB:=Blk.new (w.alloc (.cells #[.int .i64 0,.slice none 0 0,.bool false,.int .i64 0,.slice none 0 0,.bool false] 113)) 113 #[.int .i64 0,.slice none 0 0,.bool false,.int .i64 0,.slice none 0 0,.bool false]
 have hW:=ext (zg w (.cells #[.int .i64 0,.slice none 0 0,.bool false,.int .i64 0,.slice none 0 0,.bool false] 113)) (zg _ (.cells #[.int .i64 0,.slice none 0 0,.bool false,.int .i64 0,.slice none 0 0,.bool false] 113))
 simp only [World.size_alloc] at kB
 go_enter Tryz.func104,Tryz.ntmps104
 go_wp2_with fail
 generalize (w.alloc (.cells #[.int .i64 0,.slice none 0 0,.bool false,.int .i64 0,.slice none 0 0,.bool false] 113)).alloc (.cells #[.int .i64 0,.slice none 0 0,.bool false,.int .i64 0,.slice none 0 0,.bool false] 113)=W at kA kB hW |-
 refine (hr1 _).mono ?_
 rintro e w1 ⟨v1,b1,rfl,⟨x1,A1,k1,c1,s1,y1,B1,k1x,c1x,t1,rfl⟩,hb1,hq1,hbl1⟩
 have kA1:=kA.below hbl1 kA.lt
 have kB1:=kB.below hbl1 kB.lt
 have a0:=kA1.cell 0
 have a1:=kA1.cell 1
 have a2:=kA1.cell 2
 have a3:=kA1.cell 3
 have a4:=kA1.cell 4
 have a5:=kA1.cell 5
 have f0:=kA1.frozen 0
 have f1:=kA1.frozen 1
 have f2:=kA1.frozen 2
 have f3:=kA1.frozen 3
 have f4:=kA1.frozen 4
 have f5:=kA1.frozen 5
 simp at a0 a1 a2 a3 a4 a5
 have HA1:=ze (yK (x:=x1) (A:=A1) (k:=k1) (c:=c1) (s:=s1) (y:=y1) (B:=B1) (k' :=k1x) (c' :=c1x) (t:=t1) kA1)
 have HB1:=ze (zby (g' :=w.heap.size) (x:=x1) (A:=A1) (k:=k1) (c:=c1) (s:=s1) (y:=y1) (B:=B1) (k' :=k1x) (c' :=c1x) (t:=t1) kB1 (by omega))
 have HQ1:=ze (show ∀ q,zp (bts a)=some q->xR (World.rat w1 w.heap.size x1 A1 k1 c1 s1 y1 B1 k1x c1x t1) _ q from fun q hq=>(hq1 q hq).stored kA1)
 have HW1:=ze (yw (g:=w.heap.size) (x:=x1) (A:=A1) (k:=k1) (c:=c1) (s:=s1) (y:=y1) (B:=B1) (k' :=k1x) (c' :=c1x) (t:=t1) (ext hW hbl1) (Nat.le_refl _))
 have HE1:=ze hb1
 clear kA kB hW hb1 hq1 hbl1 kA1 kB1 hr1
 simp only [World.rat] at HA1 HB1 HQ1 HW1
 go_wp2_with fail
 generalize (((((w1.setCell { block:=w.heap.size,off:=0 } (.int .i64 x1)).setCell { block:=w.heap.size,off:=1 } (.slice A1 k1 c1)).setCell { block:=w.heap.size,off:=2 } (.bool s1)).setCell { block:=w.heap.size,off:=3 } (.int .i64 y1)).setCell { block:=w.heap.size,off:=4 } (.slice B1 k1x c1x)).setCell { block:=w.heap.size,off:=5 } (.bool t1)=W1 at HA1 HB1 HQ1 HW1 |-
 clear a0 a1 a2 a3 a4 a5 f0 f1 f2 f3 f4 f5
 refine (hr2 _).mono ?_
 rintro e w2 ⟨v2,b2,rfl,⟨x2,A2,k2,c2,s2,y2,B2,k2x,c2x,t2,rfl⟩,hb2,hq2,hbl2⟩
 have kA2:=HA1.out.below hbl2 HA1.out.lt
 have kB2:=HB1.out.below hbl2 HB1.out.lt
 have a0:=kB2.cell 0
 have a1:=kB2.cell 1
 have a2:=kB2.cell 2
 have a3:=kB2.cell 3
 have a4:=kB2.cell 4
 have a5:=kB2.cell 5
 have f0:=kB2.frozen 0
 have f1:=kB2.frozen 1
 have f2:=kB2.frozen 2
 have f3:=kB2.frozen 3
 have f4:=kB2.frozen 4
 have f5:=kB2.frozen 5
 simp at a0 a1 a2 a3 a4 a5
 have HB2:=ze (yK (x:=x2) (A:=A2) (k:=k2) (c:=c2) (s:=s2) (y:=y2) (B:=B2) (k' :=k2x) (c' :=c2x) (t:=t2) kB2)
 have HA2:=ze (zby (g' :=w.heap.size+1) (x:=x2) (A:=A2) (k:=k2) (c:=c2) (s:=s2) (y:=y2) (B:=B2) (k' :=k2x) (c' :=c2x) (t:=t2) kA2 (by omega))
 have HQ1' :=ze (show ∀ q,zp (bts a)=some q->xR (World.rat w2 (w.heap.size+1) x2 A2 k2 c2 s2 y2 B2 k2x c2x t2) _ q from fun q hq=>((HQ1.out q hq).below hbl2).stored kB2)
 have HQ2:=ze (show ∀ q,zp (bts b)=some q->xR (World.rat w2 (w.heap.size+1) x2 A2 k2 c2 s2 y2 B2 k2x c2x t2) _ q from fun q hq=>(hq2 q hq).stored kB2)
 have HW2:=ze (yw (g:=w.heap.size+1) (x:=x2) (A:=A2) (k:=k2) (c:=c2) (s:=s2) (y:=y2) (B:=B2) (k' :=k2x) (c' :=c2x) (t:=t2) (ext HW1.out hbl2) (by omega))
 have HE2:=ze hb2
 clear hb2 hq2 hbl2 kA2 kB2 hr2 HA1 HB1 HQ1 HW1
 simp only [World.rat] at HA2 HB2 HQ1' HQ2 HW2
 go_wp2_with fail
 generalize (((((w2.setCell { block:=w.heap.size+1,off:=0 } (.int .i64 x2)).setCell { block:=w.heap.size+1,off:=1 } (.slice A2 k2 c2)).setCell { block:=w.heap.size+1,off:=2 } (.bool s2)).setCell { block:=w.heap.size+1,off:=3 } (.int .i64 y2)).setCell { block:=w.heap.size+1,off:=4 } (.slice B2 k2x c2x)).setCell { block:=w.heap.size+1,off:=5 } (.bool t2)=W2 at HA2 HB2 HQ1' HQ2 HW2 |-
 clear a0 a1 a2 a3 a4 a5 f0 f1 f2 f3 f4 f5
 have a0:=HA2.out.cell 0
 have a1:=HA2.out.cell 1
 have a2:=HA2.out.cell 2
 have a3:=HA2.out.cell 3
 have a4:=HA2.out.cell 4
 have a5:=HA2.out.cell 5
 have f0:=HA2.out.frozen 0
 have f1:=HA2.out.frozen 1
 have f2:=HA2.out.frozen 2
 have f3:=HA2.out.frozen 3
 have f4:=HA2.out.frozen 4
 have f5:=HA2.out.frozen 5
 have d0:=HB2.out.cell 0
 have d1:=HB2.out.cell 1
 have d2:=HB2.out.cell 2
 have d3:=HB2.out.cell 3
 have d4:=HB2.out.cell 4
 have d5:=HB2.out.cell 5
 have g0:=HB2.out.frozen 0
 have g1:=HB2.out.frozen 1
 have g2:=HB2.out.frozen 2
 have g3:=HB2.out.frozen 3
 have g4:=HB2.out.frozen 4
 have g5:=HB2.out.frozen 5
 simp at a0 a1 a2 a3 a4 a5 d0 d1 d2 d3 d4 d5
 cases b1 with
 | true=>
   have HR:=ze (show b2=((zp (bts a)).isSome && (zp (bts b)).isSome) by rw [<- HE1.out, <- HE2.out];rfl)
   go_region
   go_wp2;have kA3:=yK (x:=x1) (A:=A1) (k:=k1) (c:=c1) (s:=s1) (y:=y1) (B:=B1) (k' :=k1x) (c' :=c1x) (t:=t1) HA2.out;have kB3:=zby (g' :=w.heap.size) (x:=x1) (A:=A1) (k:=k1) (c:=c1) (s:=s1) (y:=y1) (B:=B1) (k' :=k1x) (c' :=c1x) (t:=t1) HB2.out (by omega);have kA4:=zby (g' :=w.heap.size+1) (x:=x2) (A:=A2) (k:=k2) (c:=c2) (s:=s2) (y:=y2) (B:=B2) (k' :=k2x) (c' :=c2x) (t:=t2) kA3 (by omega);have kB4:=yK (x:=x2) (A:=A2) (k:=k2) (c:=c2) (s:=s2) (y:=y2) (B:=B2) (k' :=k2x) (c' :=c2x) (t:=t2) kB3;have e0:=kA4.cell 0;have e1:=kA4.cell 1;have e2:=kA4.cell 2;have e3:=kA4.cell 3;have e4:=kA4.cell 4;have e5:=kA4.cell 5;have h0:=kB4.cell 0;have h1:=kB4.cell 1;have h2:=kB4.cell 2;have h3:=kB4.cell 3;have h4:=kB4.cell 4;have h5:=kB4.cell 5;simp only [World.rat] at e0 e1 e2 e3 e4 e5 h0 h1 h2 h3 h4 h5;simp at e0 e1 e2 e3 e4 e5 h0 h1 h2 h3 h4 h5
   refine bodyPost_ret (v:=.tuple #[.agg #[.int .i64 x1,.slice A1 k1 c1,.bool s1,.int .i64 y1,.slice B1 k1x c1x,.bool t1],.agg #[.int .i64 x2,.slice A2 k2 c2,.bool s2,.int .i64 y2,.slice B2 k2x c2x,.bool t2],.bool b2]) (by simp [results,Tryz.results104,go_sem,e0,e1,e2,e3,e4,e5,h0,h1,h2,h3,h4,h5]) rfl ?_;have hd:=zw (World.rat (World.rat W2 w.heap.size x1 A1 k1 c1 s1 y1 B1 k1x c1x t1) (w.heap.size+1) x2 A2 k2 c2 s2 y2 B2 k2x c2x t2) 1;exact ⟨_,_,_,rfl,⟨_,_,_,_,_,_,_,_,_,_,rfl⟩,⟨_,_,_,_,_,_,_,_,_,_,rfl⟩,HR.out,fun q hq=>(((HQ1'.out q hq).stored HA2.out).stored kB3).below hd,fun q hq=>(((HQ2.out q hq).stored HA2.out).stored kB3).below hd,zo (yw (yw HW2.out (Nat.le_refl _)) (by omega)) 1⟩
 | false=>
   have HR:=ze (show false=((zp (bts a)).isSome && (zp (bts b)).isSome) by rw [<- HE1.out];rfl)
   go_region
   go_wp2;have kA3:=yK (x:=x1) (A:=A1) (k:=k1) (c:=c1) (s:=s1) (y:=y1) (B:=B1) (k' :=k1x) (c' :=c1x) (t:=t1) HA2.out;have kB3:=zby (g' :=w.heap.size) (x:=x1) (A:=A1) (k:=k1) (c:=c1) (s:=s1) (y:=y1) (B:=B1) (k' :=k1x) (c' :=c1x) (t:=t1) HB2.out (by omega);have kA4:=zby (g' :=w.heap.size+1) (x:=x2) (A:=A2) (k:=k2) (c:=c2) (s:=s2) (y:=y2) (B:=B2) (k' :=k2x) (c' :=c2x) (t:=t2) kA3 (by omega);have kB4:=yK (x:=x2) (A:=A2) (k:=k2) (c:=c2) (s:=s2) (y:=y2) (B:=B2) (k' :=k2x) (c' :=c2x) (t:=t2) kB3;have e0:=kA4.cell 0;have e1:=kA4.cell 1;have e2:=kA4.cell 2;have e3:=kA4.cell 3;have e4:=kA4.cell 4;have e5:=kA4.cell 5;have h0:=kB4.cell 0;have h1:=kB4.cell 1;have h2:=kB4.cell 2;have h3:=kB4.cell 3;have h4:=kB4.cell 4;have h5:=kB4.cell 5;simp only [World.rat] at e0 e1 e2 e3 e4 e5 h0 h1 h2 h3 h4 h5;simp at e0 e1 e2 e3 e4 e5 h0 h1 h2 h3 h4 h5
   refine bodyPost_ret (v:=.tuple #[.agg #[.int .i64 x1,.slice A1 k1 c1,.bool s1,.int .i64 y1,.slice B1 k1x c1x,.bool t1],.agg #[.int .i64 x2,.slice A2 k2 c2,.bool s2,.int .i64 y2,.slice B2 k2x c2x,.bool t2],.bool false]) (by simp [results,Tryz.results104,go_sem,e0,e1,e2,e3,e4,e5,h0,h1,h2,h3,h4,h5]) rfl ?_;have hd:=zw (World.rat (World.rat W2 w.heap.size x1 A1 k1 c1 s1 y1 B1 k1x c1x t1) (w.heap.size+1) x2 A2 k2 c2 s2 y2 B2 k2x c2x t2) 1;exact ⟨_,_,_,rfl,⟨_,_,_,_,_,_,_,_,_,_,rfl⟩,⟨_,_,_,_,_,_,_,_,_,_,rfl⟩,HR.out,fun q hq=>(((HQ1'.out q hq).stored HA2.out).stored kB3).below hd,fun q hq=>(((HQ2.out q hq).stored HA2.out).stored kB3).below hd,zo (yw (yw HW2.out (Nat.le_refl _)) (by omega)) 1⟩
end Go.Proofs.YtacfcmdlgebhgaaGreat
namespace Go.Proofs.YtacfcmdlgebhgaaGreat
open Go.RowKit Go.Deep
def op2 (f:Rat->Rat->Rat) (la lb:List UInt8):List UInt8×Int:=match zp la,zp lb with
 | some x,some y=>XS (f x y)
 | _,_=>([],4)
theorem zno {f:Rat->Rat->Rat} {la lb:List UInt8} (h:((zp la).isSome && (zp lb).isSome)=false):op2 f la lb=([],4):=by
 unfold op2
 cases ha:zp la with
 | none=>rfl
 | some x=>
   cases hb:zp lb with
   | none=>rfl
   | some y=>rw [ha,hb] at h;cases h
theorem zay {la lb:List UInt8} (h:((zp la).isSome && (zp lb).isSome)=true):∃ x y,zp la=some x/\zp lb=some y:=by
 cases ha:zp la with
 | none=>rw [ha] at h;cases h
 | some x=>
   cases hb:zp lb with
   | none=>rw [ha,hb] at h;cases h
   | some y=>exact ⟨x,y,rfl,rfl⟩
theorem zes {f:Rat->Rat->Rat} {la lb:List UInt8} {x y:Rat} (ha:zp la=some x) (hb:zp lb=some y):op2 f la lb=XS (f x y):=by unfold op2;rw [ha,hb]
theorem Xj {l:List UInt8} {q:Rat} (h:zp l=some q):VW 50000 q:=(yR.1 h).2.len
theorem VW.more {M K:Nat} {q:Rat} (h:VW M q) (hM:M<=K):VW K q:=⟨Nat.le_trans h.1 hM,Nat.le_trans h.2 hM⟩
theorem VW.of_dz {e:Nat} {q:Rat} (h:Dz e q):VW (e+1) q:=(Dz.short h (Nat.lt_succ_self e)).len
theorem ziu {l:List UInt8} {q:Rat} (h:zp l=some q):Dz 50000 q:=(yR.1 h).2.sz
theorem zyq {e f:Nat} {p q:Rat} (hp:Dz e p) (hq:Dz f q) (h:q≠0):Dz (e+f) (p / q):=by
 rw [<- zsi _ _ h]
 have hn:q.num≠0:=fun e=>h (Rat.num_eq_zero.1 e)
 refine zkk (s:=(p.den:Int)*q.num) (M:=p.num*q.den) (Int.mul_ne_zero (by have:=p.den_nz;omega) hn) ?_ ?_ ?_
 . rw [Rat.divInt_eq_div]
   have h1:=Zx (Int.mul_ne_zero (show (p.den:Int)≠0 by have:=p.den_nz;omega) hn)
   grind
 . rw [Int.natAbs_mul,Nat.pow_add];exact Nat.mul_le_mul hp.1 (by simpa using hq.2)
 . rw [Int.natAbs_mul,Nat.pow_add];exact Nat.mul_le_mul (by simpa using hp.2) hq.1
theorem zqe (a b:ByteArray) (w:World) (ha:a.size<=1073741824) (hb:b.size<=1073741824):
 Calls Tryz.prog 80 #[.string a,.string b,.func (.func 81) #[] #[]] w (zrq w (op2 (· + ·) (bts a) (bts b))):=by
 have ht:=fun w=>zci a b w ha hb
 go_enter Tryz.func80,Tryz.ntmps80
 go_wp2_with fail
 refine (ht _).mono ?_
 rintro e w1 ⟨v1,v2,bb,rfl,⟨x1,A1,k1,c1,s1,y1,B1,k1x,c1x,t1,rfl⟩,⟨x2,A2,k2,c2,s2,y2,B2,k2x,c2x,t2,rfl⟩,hbb,hq1,hq2,hW⟩
 have hb1:=ext (zg w1 (.cells #[.int .i64 x1,.slice A1 k1 c1,.bool s1,.int .i64 y1,.slice B1 k1x c1x,.bool t1] 113)) (zg _ (.cells #[.int .i64 x2,.slice A2 k2 c2,.bool s2,.int .i64 y2,.slice B2 k2x c2x,.bool t2] 113))
 have HQ1:=ze (show ∀ q,zp (bts a)=some q->xR _ _ q from fun q hq=>(hq1 q hq).below hb1)
 have HQ2:=ze (show ∀ q,zp (bts b)=some q->xR _ _ q from fun q hq=>(hq2 q hq).below hb1)
 have HW:=ze (ext hW hb1)
 clear hq1 hq2 hW hb1 ht
 cases bb with
 | false=>
   have HR:=ze (zno (f:=(· + ·)) hbb.symm);clear hbb;go_wp2_with fail;go_ret2;rw [HR.out];exact ⟨rfl,HW.out⟩
 | true=>
   obtain ⟨x,y,hx,hy⟩:=zay hbb.symm;have HR:=ze (zes (f:=(· + ·)) hx hy);have HX:=ze hx;have HY:=ze hy;clear hbb hx hy;go_wp2_with fail;refine (zfd _ _ x y _ (HQ1.out x HX.out) (HQ2.out y HY.out) ((Xj HX.out).more (by omega)) ((Xj HY.out).more (by omega))).mono ?_;rintro e w2 ⟨v,rfl,hv,hb2⟩;have HL:=ze (show VW 67108864 ((· + ·) x y) from (VW.of_dz (e:=100001) (Dz.add (ziu HX.out) (ziu HY.out) (by omega))).more (by omega));have HV:=ze hv;have HW2:=ze (ext HW.out hb2);clear hv hb2;go_wp2_with fail;refine (zdq v _ w2 HV.out HL.out).mono ?_;rintro e w3 ⟨rfl,hb3⟩;have HB3:=ze hb3;clear hb3;go_wp2_with fail;go_ret2;rw [HR.out];exact ⟨rfl,ext HW2.out HB3.out⟩
theorem zp3 (a b:ByteArray) (w:World) (ha:a.size<=1073741824) (hb:b.size<=1073741824):
 Calls Tryz.prog 80 #[.string a,.string b,.func (.func 83) #[] #[]] w (zrq w (op2 (· - ·) (bts a) (bts b))):=by
 have ht:=fun w=>zci a b w ha hb
 go_enter Tryz.func80,Tryz.ntmps80
 go_wp2_with fail
 refine (ht _).mono ?_
 rintro e w1 ⟨v1,v2,bb,rfl,⟨x1,A1,k1,c1,s1,y1,B1,k1x,c1x,t1,rfl⟩,⟨x2,A2,k2,c2,s2,y2,B2,k2x,c2x,t2,rfl⟩,hbb,hq1,hq2,hW⟩
 have hb1:=ext (zg w1 (.cells #[.int .i64 x1,.slice A1 k1 c1,.bool s1,.int .i64 y1,.slice B1 k1x c1x,.bool t1] 113)) (zg _ (.cells #[.int .i64 x2,.slice A2 k2 c2,.bool s2,.int .i64 y2,.slice B2 k2x c2x,.bool t2] 113))
 have HQ1:=ze (show ∀ q,zp (bts a)=some q->xR _ _ q from fun q hq=>(hq1 q hq).below hb1)
 have HQ2:=ze (show ∀ q,zp (bts b)=some q->xR _ _ q from fun q hq=>(hq2 q hq).below hb1)
 have HW:=ze (ext hW hb1)
 clear hq1 hq2 hW hb1 ht
 cases bb with
 | false=>
   have HR:=ze (zno (f:=(· - ·)) hbb.symm);clear hbb;go_wp2_with fail;go_ret2;rw [HR.out];exact ⟨rfl,HW.out⟩
 | true=>
   obtain ⟨x,y,hx,hy⟩:=zay hbb.symm;have HR:=ze (zes (f:=(· - ·)) hx hy);have HX:=ze hx;have HY:=ze hy;clear hbb hx hy;go_wp2_with fail;refine (zl1 _ _ x y _ (HQ1.out x HX.out) (HQ2.out y HY.out) ((Xj HX.out).more (by omega)) ((Xj HY.out).more (by omega))).mono ?_;rintro e w2 ⟨v,rfl,hv,hb2⟩;have HL:=ze (show VW 67108864 ((· - ·) x y) from (VW.of_dz (e:=100001) (Dz.sub (ziu HX.out) (ziu HY.out) (by omega))).more (by omega));have HV:=ze hv;have HW2:=ze (ext HW.out hb2);clear hv hb2;go_wp2_with fail;refine (zdq v _ w2 HV.out HL.out).mono ?_;rintro e w3 ⟨rfl,hb3⟩;have HB3:=ze hb3;clear hb3;go_wp2_with fail;go_ret2;rw [HR.out];exact ⟨rfl,ext HW2.out HB3.out⟩
theorem zqj (a b:ByteArray) (w:World) (ha:a.size<=1073741824) (hb:b.size<=1073741824):
 Calls Tryz.prog 80 #[.string a,.string b,.func (.func 82) #[] #[]] w (zrq w (op2 (· * ·) (bts a) (bts b))):=by
 have ht:=fun w=>zci a b w ha hb
 go_enter Tryz.func80,Tryz.ntmps80
 go_wp2_with fail
 refine (ht _).mono ?_
 rintro e w1 ⟨v1,v2,bb,rfl,⟨x1,A1,k1,c1,s1,y1,B1,k1x,c1x,t1,rfl⟩,⟨x2,A2,k2,c2,s2,y2,B2,k2x,c2x,t2,rfl⟩,hbb,hq1,hq2,hW⟩
 have hb1:=ext (zg w1 (.cells #[.int .i64 x1,.slice A1 k1 c1,.bool s1,.int .i64 y1,.slice B1 k1x c1x,.bool t1] 113)) (zg _ (.cells #[.int .i64 x2,.slice A2 k2 c2,.bool s2,.int .i64 y2,.slice B2 k2x c2x,.bool t2] 113))
 have HQ1:=ze (show ∀ q,zp (bts a)=some q->xR _ _ q from fun q hq=>(hq1 q hq).below hb1)
 have HQ2:=ze (show ∀ q,zp (bts b)=some q->xR _ _ q from fun q hq=>(hq2 q hq).below hb1)
 have HW:=ze (ext hW hb1)
 clear hq1 hq2 hW hb1 ht
 cases bb with
 | false=>
   have HR:=ze (zno (f:=(· * ·)) hbb.symm);clear hbb;go_wp2_with fail;go_ret2;rw [HR.out];exact ⟨rfl,HW.out⟩
 | true=>
   obtain ⟨x,y,hx,hy⟩:=zay hbb.symm;have HR:=ze (zes (f:=(· * ·)) hx hy);have HX:=ze hx;have HY:=ze hy;clear hbb hx hy;go_wp2_with fail;refine (zl5 _ _ x y _ (HQ1.out x HX.out) (HQ2.out y HY.out) ((Xj HX.out).more (by omega)) ((Xj HY.out).more (by omega))).mono ?_;rintro e w2 ⟨v,rfl,hv,hb2⟩;have HL:=ze (show VW 67108864 ((· * ·) x y) from (VW.of_dz (e:=100001) (Dz.mul (ziu HX.out) (ziu HY.out) (by omega))).more (by omega));have HV:=ze hv;have HW2:=ze (ext HW.out hb2);clear hv hb2;go_wp2_with fail;refine (zdq v _ w2 HV.out HL.out).mono ?_;rintro e w3 ⟨rfl,hb3⟩;have HB3:=ze hb3;clear hb3;go_wp2_with fail;go_ret2;rw [HR.out];exact ⟨rfl,ext HW2.out HB3.out⟩
theorem zgm (a b:ByteArray) (w:World) (ha:a.size<=1073741824) (hb:b.size<=1073741824) (h0:∀ y,zp (bts b)=some y->y≠0):
 Calls Tryz.prog 80 #[.string a,.string b,.func (.func 94) #[] #[]] w (zrq w (op2 (· / ·) (bts a) (bts b))):=by
 have ht:=fun w=>zci a b w ha hb
 go_enter Tryz.func80,Tryz.ntmps80
 go_wp2_with fail
 refine (ht _).mono ?_
 rintro e w1 ⟨v1,v2,bb,rfl,⟨x1,A1,k1,c1,s1,y1,B1,k1x,c1x,t1,rfl⟩,⟨x2,A2,k2,c2,s2,y2,B2,k2x,c2x,t2,rfl⟩,hbb,hq1,hq2,hW⟩
 have hb1:=ext (zg w1 (.cells #[.int .i64 x1,.slice A1 k1 c1,.bool s1,.int .i64 y1,.slice B1 k1x c1x,.bool t1] 113)) (zg _ (.cells #[.int .i64 x2,.slice A2 k2 c2,.bool s2,.int .i64 y2,.slice B2 k2x c2x,.bool t2] 113))
 have HQ1:=ze (show ∀ q,zp (bts a)=some q->xR _ _ q from fun q hq=>(hq1 q hq).below hb1)
 have HQ2:=ze (show ∀ q,zp (bts b)=some q->xR _ _ q from fun q hq=>(hq2 q hq).below hb1)
 have HW:=ze (ext hW hb1)
 clear hq1 hq2 hW hb1 ht
 cases bb with
 | false=>
   have HR:=ze (zno (f:=(· / ·)) hbb.symm);clear hbb;go_wp2_with fail;go_ret2;rw [HR.out];exact ⟨rfl,HW.out⟩
 | true=>
   obtain ⟨x,y,hx,hy⟩:=zay hbb.symm;have HR:=ze (zes (f:=(· / ·)) hx hy);have HX:=ze hx;have HY:=ze hy;clear hbb hx hy;go_wp2_with fail;refine (zml _ _ x y _ (HQ1.out x HX.out) (HQ2.out y HY.out) ((Xj HX.out).more (by omega)) ((Xj HY.out).more (by omega)) (h0 y HY.out)).mono ?_;rintro e w2 ⟨v,rfl,hv,hb2⟩;have HL:=ze (show VW 67108864 ((· / ·) x y) from (VW.of_dz (e:=100001) ((zyq (ziu HX.out) (ziu HY.out) (h0 y HY.out)).more (by omega))).more (by omega));have HV:=ze hv;have HW2:=ze (ext HW.out hb2);clear hv hb2;go_wp2_with fail;refine (zdq v _ w2 HV.out HL.out).mono ?_;rintro e w3 ⟨rfl,hb3⟩;have HB3:=ze hb3;clear hb3;go_wp2_with fail;go_ret2;rw [HR.out];exact ⟨rfl,ext HW2.out HB3.out⟩
theorem zwh (a b:ByteArray) (w:World) (ha:a.size<=1073741824) (hb:b.size<=1073741824):
 Calls Tryz.prog 50 #[.string a,.string b] w (zrq w (op2 (· + ·) (bts a) (bts b))):=by
 have hr:=fun w=>zqe a b w ha hb
 go_enter Tryz.func50,Tryz.ntmps50
 go_wp2_with fail
 refine (hr _).mono ?_
 rintro e w1 ⟨rfl,hb1⟩
 have HB1:=ze hb1
 clear hb1 hr
 go_wp2_with fail
 go_ret2
 exact ⟨rfl,HB1.out⟩
theorem zwq (a b:ByteArray) (w:World) (ha:a.size<=1073741824) (hb:b.size<=1073741824):
 Calls Tryz.prog 52 #[.string a,.string b] w (zrq w (op2 (· - ·) (bts a) (bts b))):=by
 have hr:=fun w=>zp3 a b w ha hb
 go_enter Tryz.func52,Tryz.ntmps52
 go_wp2_with fail
 refine (hr _).mono ?_
 rintro e w1 ⟨rfl,hb1⟩
 have HB1:=ze hb1
 clear hb1 hr
 go_wp2_with fail
 go_ret2
 exact ⟨rfl,HB1.out⟩
theorem zxn (a b:ByteArray) (w:World) (ha:a.size<=1073741824) (hb:b.size<=1073741824):
 Calls Tryz.prog 51 #[.string a,.string b] w (zrq w (op2 (· * ·) (bts a) (bts b))):=by
 have hr:=fun w=>zqj a b w ha hb
 go_enter Tryz.func51,Tryz.ntmps51
 go_wp2_with fail
 refine (hr _).mono ?_
 rintro e w1 ⟨rfl,hb1⟩
 have HB1:=ze hb1
 clear hb1 hr
 go_wp2_with fail
 go_ret2
 exact ⟨rfl,HB1.out⟩
def zto (la lb:List UInt8):Int×Int:=match zp la,zp lb with
 | some x,some y=>(zpg x y,0)
 | _,_=>(0,4)
def zzr (w:World) (r:Int×Int) (e:Ending) (w' :World):Prop:=e= .returned (.tuple #[.int .i64 r.1,.int .i64 r.2])/\Below w.heap.size w w'
theorem zw1 (a b:ByteArray) (w:World) (ha:a.size<=1073741824) (hb:b.size<=1073741824):
 Calls Tryz.prog 121 #[.string a,.string b] w (zzr w (zto (bts a) (bts b))):=by
 have ht:=fun w=>zci a b w ha hb
 go_enter Tryz.func121,Tryz.ntmps121
 go_wp2_with fail
 refine (ht _).mono ?_
 rintro e w1 ⟨v1,v2,bb,rfl,⟨x1,A1,k1,c1,s1,y1,B1,k1x,c1x,t1,rfl⟩,⟨x2,A2,k2,c2,s2,y2,B2,k2x,c2x,t2,rfl⟩,hbb,hq1,hq2,hW⟩
 have hb1:=ext (zg w1 (.cells #[.int .i64 x1,.slice A1 k1 c1,.bool s1,.int .i64 y1,.slice B1 k1x c1x,.bool t1] 113)) (zg _ (.cells #[.int .i64 x2,.slice A2 k2 c2,.bool s2,.int .i64 y2,.slice B2 k2x c2x,.bool t2] 113))
 have HQ1:=ze (show ∀ q,zp (bts a)=some q->xR _ _ q from fun q hq=>(hq1 q hq).below hb1)
 have HQ2:=ze (show ∀ q,zp (bts b)=some q->xR _ _ q from fun q hq=>(hq2 q hq).below hb1)
 have HW:=ze (ext hW hb1)
 clear hq1 hq2 hW hb1 ht
 cases bb with
 | false=>
   have e0:zto (bts a) (bts b)=(0,4):=by
    unfold zto
    cases ha:zp (bts a) with
    | none=>rfl
    | some x=>
      cases hb:zp (bts b) with
      | none=>rfl
      | some y=>rw [ha,hb] at hbb;cases hbb
   have HR:=ze e0;clear hbb e0;go_wp2_with fail;go_ret2;rw [HR.out];exact ⟨rfl,HW.out⟩
 | true=>
   obtain ⟨x,y,hx,hy⟩:=zay hbb.symm;have e0:zto (bts a) (bts b)=(zpg x y,0):=by unfold zto;rw [hx,hy]
   have HR:=ze e0;have HX:=ze hx;have HY:=ze hy;clear hbb hx hy e0;go_wp2_with fail;refine (zk5 _ _ x y _ (HQ1.out x HX.out) (HQ2.out y HY.out) ((Xj HX.out).more (by omega)) ((Xj HY.out).more (by omega))).mono ?_;rintro e w2 ⟨rfl,hb2⟩;have HB2:=ze hb2;clear hb2;go_wp2_with fail;go_ret2;rw [HR.out];exact ⟨rfl,ext HW.out HB2.out⟩
theorem zma (a b:ByteArray) (w:World) (ha:a.size<=1073741824) (hb:b.size<=1073741824) (hn:zp (bts a)=none):
 Calls Tryz.prog 80 #[.string a,.string b,.func (.func 94) #[] #[]] w (zrq w (op2 (· / ·) (bts a) (bts b))):=by
 have ht:=fun w=>zci a b w ha hb
 have e0:op2 (· / ·) (bts a) (bts b)=([],4):=by unfold op2;rw [hn]
 rw [e0]
 have HN:=ze hn
 clear e0 hn
 go_enter Tryz.func80,Tryz.ntmps80
 go_wp2_with fail
 refine (ht _).mono ?_
 rintro e w1 ⟨v1,v2,bb,rfl,⟨x1,A1,k1,c1,s1,y1,B1,k1x,c1x,t1,rfl⟩,⟨x2,A2,k2,c2,s2,y2,B2,k2x,c2x,t2,rfl⟩,hbb,hq1,hq2,hW⟩
 have hb1:=ext (zg w1 (.cells #[.int .i64 x1,.slice A1 k1 c1,.bool s1,.int .i64 y1,.slice B1 k1x c1x,.bool t1] 113)) (zg _ (.cells #[.int .i64 x2,.slice A2 k2 c2,.bool s2,.int .i64 y2,.slice B2 k2x c2x,.bool t2] 113))
 have HW:=ze (ext hW hb1)
 rw [HN.out] at hbb
 obtain rfl:bb=false:=hbb
 clear hq1 hq2 hW hb1 ht
 go_wp2_with fail
 go_ret2
 exact ⟨rfl,HW.out⟩
def ztp (la lb:List UInt8):List UInt8×Int:=match zp la,zp lb with
 | some x,some y=>if y=0 then ([],7) else XS (x / y)
 | _,_=>([],4)
theorem zsd (q:Rat):(zpg q 0 == 0)=decide (q=0):=by
 unfold zpg
 by_cases h1:q<0
 . rw [if_pos h1,decide_eq_false (by grind)];rfl
 by_cases h2:0<q
 . rw [if_neg h1,if_pos h2,decide_eq_false (by grind)];rfl
 rw [if_neg h1,if_neg h2,decide_eq_true (by grind)];rfl
theorem zwi (a b:ByteArray) (w:World) (ha:a.size<=1073741824) (hb:b.size<=1073741824):
 Calls Tryz.prog 72 #[.string a,.string b] w (zrq w (ztp (bts a) (bts b))):=by
 have hrb:=fun w=>YQ b w hb
 have hva:=fun w=>zei a w ha
 by_cases hz:∃ x,zp (bts a)=some x/\zp (bts b)=some 0
 . obtain ⟨x,hx,hy⟩:=hz
   have e0:ztp (bts a) (bts b)=([],7):=by unfold ztp;rw [hx,hy];simp
   rw [e0];simp only [hx,Option.isSome_some] at hva;have HY:=ze hy;clear e0 hx hy
   go_enter Tryz.func72,Tryz.ntmps72
   go_wp2_with fail;refine (hrb _).mono ?_;rintro e w1 ⟨v,b',rfl,⟨x1,A1,k1,c1,s1,y1,B1,k1x,c1x,t1,rfl⟩,hbb,hq,hW⟩;rw [HY.out] at hbb;obtain rfl:b' =true:=hbb;have hb1:=zg w1 (.cells #[.int .i64 x1,.slice A1 k1 c1,.bool s1,.int .i64 y1,.slice B1 k1x c1x,.bool t1] 113);have HQ:=ze ((hq 0 HY.out).below hb1);have HW:=ze (ext hW hb1);have kB:=Blk.new w1 113 #[.int .i64 x1,.slice A1 k1 c1,.bool s1,.int .i64 y1,.slice B1 k1x c1x,.bool t1];have HK:=ze kB;clear hq hW hb1 hrb kB;go_wp2_with fail;refine (hva _).mono ?_;rintro e w2 ⟨rfl,hb2⟩;have kB2:=HK.out.below hb2 HK.out.lt;have b0:=kB2.cell 0;have b1:=kB2.cell 1;have b2:=kB2.cell 2;have b3:=kB2.cell 3;have b4:=kB2.cell 4;have b5:=kB2.cell 5;simp at b0 b1 b2 b3 b4 b5;have HQ2:=ze (HQ.out.below hb2);have HW2:=ze (ext HW.out hb2);clear hb2 kB2;go_wp2_with fail;refine (zc2 _ 0 w2 HQ2.out).mono ?_;rintro e w3 ⟨rfl,hb3⟩;have e1:(zpg 0 0 == 0)=true:=by decide
   have HB3:=ze hb3;clear hb3;go_wp2_with fail;go_ret2;exact ⟨rfl,ext HW2.out HB3.out⟩
 have h0:∀ x y,zp (bts a)=some x->zp (bts b)=some y->y≠0:=fun x y hx hy e=>hz ⟨x,hx,by rw [hy,e]⟩
 have e0:ztp (bts a) (bts b)=op2 (· / ·) (bts a) (bts b):=by
  unfold ztp op2
  cases hx:zp (bts a) with
  | none=>rfl
  | some x=>
    cases hy:zp (bts b) with
    | none=>rfl
    | some y=>simp only;rw [if_neg (h0 x y hx hy)]
 rw [e0];clear e0
 by_cases hva2:(zp (bts a)).isSome=true
 . obtain ⟨x,hx⟩:=Option.isSome_iff_exists.1 hva2
   have hrk:=fun w=>zgm a b w ha hb (fun y hy=>h0 x y hx hy)
   simp only [hva2] at hva;have H0:=ze (fun y hy=>h0 x y hx hy);clear h0 hx hva2 hz
   go_enter Tryz.func72,Tryz.ntmps72
   go_wp2_with fail;refine (hrb _).mono ?_;rintro e w1 ⟨v,b',rfl,⟨x1,A1,k1,c1,s1,y1,B1,k1x,c1x,t1,rfl⟩,hbb,hq,hW⟩;have hb1:=zg w1 (.cells #[.int .i64 x1,.slice A1 k1 c1,.bool s1,.int .i64 y1,.slice B1 k1x c1x,.bool t1] 113);have HW:=ze (ext hW hb1)
   cases b' with
   | false=>
     clear hbb hq hW hb1 hrb hva;go_wp2_with fail;refine (hrk _).mono ?_;rintro e w2 ⟨rfl,hb2⟩;have HB2:=ze hb2;clear hb2;go_wp2_with fail;go_ret2;exact ⟨rfl,ext HW.out HB2.out⟩
   | true=>
     obtain ⟨y,hy⟩:=Option.isSome_iff_exists.1 hbb.symm;have HQ:=ze ((hq y hy).below hb1);have HY:=ze (H0.out y hy);have kB:=Blk.new w1 113 #[.int .i64 x1,.slice A1 k1 c1,.bool s1,.int .i64 y1,.slice B1 k1x c1x,.bool t1];have HK:=ze kB;clear hbb hq hW hb1 hrb kB hy;go_wp2_with fail;refine (hva _).mono ?_;rintro e w2 ⟨rfl,hb2⟩;have kB2:=HK.out.below hb2 HK.out.lt;have b0:=kB2.cell 0;have b1:=kB2.cell 1;have b2:=kB2.cell 2;have b3:=kB2.cell 3;have b4:=kB2.cell 4;have b5:=kB2.cell 5;simp at b0 b1 b2 b3 b4 b5;have HQ2:=ze (HQ.out.below hb2);have HW2:=ze (ext HW.out hb2);clear hb2 kB2;go_wp2_with fail;refine (zc2 _ y w2 HQ2.out).mono ?_;rintro e w3 ⟨rfl,hb3⟩;have e1:(zpg y 0 == 0)=false:=by rw [zsd,decide_eq_false HY.out]
     have HW3:=ze (ext HW2.out hb3);clear hb3;go_wp2_with fail;refine (hrk _).mono ?_;rintro e w4 ⟨rfl,hb4⟩;have HB4:=ze hb4;clear hb4;go_wp2_with fail;go_ret2;exact ⟨rfl,ext HW3.out HB4.out⟩
 have hv0:(zp (bts a)).isSome=false:=by simpa using hva2
 have hnn:zp (bts a)=none:=by simpa using hv0
 simp only [hv0] at hva
 have hrk:∀ w,Calls Tryz.prog 80 #[.string a,.string b,.func (.func 94) #[] #[]] w (zrq w (op2 (· / ·) (bts a) (bts b))):=by
  intro w
  by_cases hb0:∀ y,zp (bts b)=some y->y≠0
  . exact zgm a b w ha hb hb0
  exact zma a b w ha hb hnn
 clear h0 hz hva2 hv0 hnn
 go_enter Tryz.func72,Tryz.ntmps72
 go_wp2_with fail;refine (hrb _).mono ?_;rintro e w1 ⟨v,b',rfl,⟨x1,A1,k1,c1,s1,y1,B1,k1x,c1x,t1,rfl⟩,hbb,hq,hW⟩;have hb1:=zg w1 (.cells #[.int .i64 x1,.slice A1 k1 c1,.bool s1,.int .i64 y1,.slice B1 k1x c1x,.bool t1] 113);have HW:=ze (ext hW hb1);clear hbb hq hW hb1 hrb
 cases b' with
 | false=>
   go_wp2_with fail;refine (hrk _).mono ?_;rintro e w2 ⟨rfl,hb2⟩;have HB2:=ze hb2;clear hb2;go_wp2_with fail;go_ret2;exact ⟨rfl,ext HW.out HB2.out⟩
 | true=>
   go_wp2_with fail;refine (hva _).mono ?_;rintro e w2 ⟨rfl,hb2⟩;have HW2:=ze (ext HW.out hb2);clear hb2;go_wp2_with fail;refine (hrk _).mono ?_;rintro e w4 ⟨rfl,hb4⟩;have HB4:=ze hb4;clear hb4;go_wp2_with fail;go_ret2;exact ⟨rfl,ext HW2.out HB4.out⟩
end Go.Proofs.YtacfcmdlgebhgaaGreat
namespace Go.Proofs.YtacfcmdlgebhgaaGreat
open Go.RowKit Go.Deep
attribute [local go_sem ↓] Go.wp_at_zero Go.wp_at_succ
theorem zgk (s:ByteArray) (w:World) (hs:s.size<=1073741824):
 Calls Tryz.prog 73 #[.string s] w (zfu w (.bool (vr (bts s)))):=by
 by_cases h0:s.size=0
 . have he:((s.size:Int)<1):=by omega
   have HN:=ze (show vr (bts s)=false by unfold vr;rw [zm,h0];rfl);clear h0
   go_enter Tryz.func73,Tryz.ntmps73
   go_wp2_with fail;go_ret;exact ⟨z0 HN.out,rfl⟩
 have hp:0<s.size:=by omega
 have hne:=XP hp;clear h0
 by_cases h16:16<s.size
 . have HN:=ze (show vr (bts s)=false by unfold vr;rw [zm,decide_eq_false (show ¬ s.size<=16 by omega)];simp)
   go_enter Tryz.func73,Tryz.ntmps73
   go_wp2_with fail;go_ret;exact ⟨z0 HN.out,rfl⟩
 cases hl:zfv s[0] with
 | false=>
   have HN:=ze (zn1 hp hl)
   have hc:s[0].toNat<97\/122<s[0].toNat:=by
    have:¬ (97<=s[0].toNat/\s[0].toNat<=122):=by intro h;rw [X0.2 h] at hl;cases hl
    omega
   rcases hc with hc | hc
   . clear hl
     go_enter Tryz.func73,Tryz.ntmps73
     go_wp2_with fail;go_ret;exact ⟨z0 HN.out,rfl⟩
   . have hc2:¬ s[0].toNat<97:=by omega
     clear hl
     go_enter Tryz.func73,Tryz.ntmps73
     go_wp2_with fail;go_ret;exact ⟨z0 HN.out,rfl⟩
 | true=>
   obtain ⟨hc1,hc2⟩:=X0.1 hl;have hd1:¬ s[0].toNat<97:=by omega
   have hd2:¬ 122<s[0].toNat:=by omega
   have HL:=ze hl;have H16:=ze (show s.size<=16 by omega);clear hl hc1 hc2
   go_enter Tryz.func73,Tryz.ntmps73
   go_wp2_with fail
   go_loop [25] (fun iv=>∃ k:Nat,k<=s.size/\iv= .int .i64 k/\Hid (∀ j (h:j<s.size),j<k->yD s[j]=true)) (fun iv=>s.size - (intOf iv).toNat)
   case atStart=>exact ⟨0,Nat.zero_le _,rfl,fun j _ h=>by omega⟩
   case round=>
    obtain ⟨k,hk,rfl,HD⟩:=hrel;clear hd1 hd2
    by_cases hlt:k<s.size
    rotate_left
    . obtain rfl:k=s.size:=by omega
      have HN:=ze (zni hp H16.out HL.out (fun j hj=>HD.out j hj hj));go_wp2_with fail;go_ret;exact ⟨z0 HN.out,rfl⟩
    cases hd:yD s[k] with
    | true=>
      have HD1:=ze hd
      have hnext:∀ j (h:j<s.size),j<k+1->yD s[j]=true:=by
       intro j hj hlt2
       rcases Nat.lt_or_ge j k with h3 | h3
       . exact HD.out j hj h3
       . obtain rfl:j=k:=by omega
         exact HD1.out
      have HNX:=ze hnext;clear hnext
      rcases zda hd with ⟨h1,h2⟩ | ⟨h1,h2,h3⟩ | h1
      . clear hd
        go_wp2_with fail;go_round
        case rel=>exact ⟨k+1,by omega,by go_num,HNX.out⟩
        case measure=>simp [intOf];omega
      . have h4:¬ 97<=s[k].toNat:=by omega
        clear hd h3;go_wp2_with fail;go_round
        case rel=>exact ⟨k+1,by omega,by go_num,HNX.out⟩
        case measure=>simp [intOf];omega
      . have h4:¬ 97<=s[k].toNat:=by omega
        have h5:¬ 48<=s[k].toNat:=by omega
        have h6:((s[k].toNat:Int) == 45)=true:=by rw [h1];rfl
        clear hd;clear h1;go_wp2_with fail;go_round
        case rel=>exact ⟨k+1,by omega,by go_num,HNX.out⟩
        case measure=>simp [intOf];omega
    | false=>
      have HN:=ze (znr hlt hd)
      have h6:((s[k].toNat:Int) == 45)=false:=by
       rw [beq_eq_false_iff_ne];have:=YP hd
       omega
      rcases YP hd with ⟨h1,_⟩ | ⟨h1,h2⟩ | h1
      . have h4:¬ 97<=s[k].toNat:=by omega
        have h5:¬ 48<=s[k].toNat:=by omega
        clear hd;go_wp2_with fail;go_ret;exact ⟨z0 HN.out,rfl⟩
      . have h4:¬ 97<=s[k].toNat:=by omega
        have h5:48<=s[k].toNat:=by omega
        have h7:decide ((s[k].toNat:Int)<=57)=false:=by rw [decide_eq_false_iff_not];omega
        clear hd;go_wp2_with fail;go_ret;exact ⟨z0 HN.out,rfl⟩
      . have h4:97<=s[k].toNat:=by omega
        have h5:48<=s[k].toNat:=by omega
        have h7:decide ((s[k].toNat:Int)<=57)=false:=by rw [decide_eq_false_iff_not];omega
        have h8:decide ((s[k].toNat:Int)<=122)=false:=by rw [decide_eq_false_iff_not];omega
        clear hd;go_wp2_with fail;go_ret;exact ⟨z0 HN.out,rfl⟩
theorem zp4 (s:ByteArray) (w:World) (hs:s.size<=1073741824):
 Calls Tryz.prog 144 #[.string s] w (zh6 w s):=by
 have h:=fun w=>zf7 s w hs
 clear hs
 go_enter Tryz.func144,Tryz.ntmps144
 go_wp2_with fail
 refine (h _).mono ?_
 rintro e w1 ⟨u,rfl,hu,rfl⟩
 have HU:=ze hu
 clear h hu
 go_wp2_with fail
 go_ret
 exact ⟨u,rfl,HU.out,rfl⟩
def zc0 (l:List UInt8):Bool:=decide (12<(yC 47 (zq l)).length) || decide (12<(if has 47 (zq l)=true then ys 47 (zq l) else []).length)
theorem zlr {l:List UInt8} {q:Rat} (h:zp l=some q):zc0 l= !decide (zG 12 q):=by
 rw [zc3]
 obtain ⟨h1,h2,h3,h4⟩:=V1 (yR.1 h).1
 unfold zc0
 rw [h2,h3]
 congr 1
 by_cases hd:q.den=1
 . rw [hd,zen];simp
 rw [if_pos (by simpa using hd),h4 hd]
theorem zpl (s:ByteArray) (w:World) (hs:s.size<=1073741824):
 Calls Tryz.prog 120 #[.string s] w (vO w (.bool (zc0 (bts s)))):=by
 have h:=fun w=>zp4 s w hs
 have HS:=ze hs
 clear hs
 go_enter Tryz.func120,Tryz.ntmps120
 go_wp2_with fail
 refine (h _).mono ?_
 rintro e w1 ⟨u,rfl,hu,rfl⟩
 have hus:u.size<=1073741824:=by
  have h2:(zq (bts s)).length<=(bts s).length:=by unfold zq;split<;>simp
  rw [<- zm,hu];rw [zm] at h2;have:=HS.out;omega
 have hc:=fun w=>ztl u 47 w hus
 have HU:=ze hu
 clear h hu hus
 go_wp2_with fail
 refine (hc _).mono ?_
 rintro e w1 ⟨a,b,rfl,ha,hb,n,rfl⟩
 rw [HU.out] at ha hb
 have HL:=ze (show zc0 (bts s)=(decide (12<a.size) || decide (12<b.size)) by
  unfold zc0;rw [<- ha, <- hb,zm,zm])
 have HW:=ze (zw w n)
 clear hc ha hb
 by_cases h1:12<a.size
 . have HL1:=ze (HL.out.trans (by rw [decide_eq_true h1];rfl:_=true))
   clear HL;go_wp2_with fail;go_ret;exact ⟨z0 HL1.out,HW.out⟩
 have HL1:=ze (show zc0 (bts s)=(decide (12<(a.size:Int)) || decide (12<(b.size:Int))) by
  rw [HL.out];congr 1<;>(apply decide_eq_decide.2;omega))
 clear HL;go_wp2_with fail;go_ret;exact ⟨z0 HL1.out,HW.out⟩
theorem zpz (l:List UInt8):zY l=if (zp l).isSome=false then 4 else if zc0 l=true then 3 else 0:=by
 unfold zY
 cases h:zp l with
 | none=>rfl
 | some q=>
   rw [zlr h]
   by_cases hs:zG 12 q<;>simp [hs]
theorem Vo (s:ByteArray) (w:World) (hs:s.size<=1073741824):
 Calls Tryz.prog 99 #[.string s] w (vO w (.int .i64 (zY (bts s)))):=by
 have h1:=fun w=>zei s w hs
 have h2:=fun w=>zpl s w hs
 have HN:=ze (zpz (bts s))
 clear hs
 cases hv:(zp (bts s)).isSome with
 | false=>
   rw [hv] at h1;have HE:=ze (HN.out.trans (by rw [hv];rfl:_=(4:Int)));clear hv HN
   go_enter Tryz.func99,Tryz.ntmps99
   go_wp2_with fail;refine (h1 _).mono ?_;rintro e w1 ⟨rfl,hb⟩;have HB:=ze hb;clear h1 h2 hb;go_wp2_with fail;go_ret;exact ⟨zr HE.out,HB.out⟩
 | true=>
   rw [hv] at h1
   cases hl:zc0 (bts s) with
   | true=>
     rw [hl] at h2;have HE:=ze (HN.out.trans (by rw [hv,hl];rfl:_=(3:Int)));clear hv HN hl
     go_enter Tryz.func99,Tryz.ntmps99
     go_wp2_with fail;refine (h1 _).mono ?_;rintro e w1 ⟨rfl,hb⟩;have HB:=ze hb;clear h1 hb;go_wp2_with fail;refine (h2 _).mono ?_;rintro e w2 ⟨rfl,hb⟩;have HB2:=ze (ext HB.out hb);clear h2 hb;go_wp2_with fail;go_ret;exact ⟨zr HE.out,HB2.out⟩
   | false=>
     rw [hl] at h2;have HE:=ze (HN.out.trans (by rw [hv,hl];rfl:_=(0:Int)));clear hv HN hl
     go_enter Tryz.func99,Tryz.ntmps99
     go_wp2_with fail;refine (h1 _).mono ?_;rintro e w1 ⟨rfl,hb⟩;have HB:=ze hb;clear h1 hb;go_wp2_with fail;refine (h2 _).mono ?_;rintro e w2 ⟨rfl,hb⟩;have HB2:=ze (ext HB.out hb);clear h2 hb;go_wp2_with fail;go_ret;exact ⟨zr HE.out,HB2.out⟩
theorem zbv (a b:ByteArray) (w:World) (ha:a.size<=1073741824) (hb:b.size<=1073741824):
 Calls Tryz.prog 100 #[.string a,.string b] w (vO w (.bool (decide ((zto (bts a) (bts b)).1<0)))):=by
 have h:=fun w=>zw1 a b w ha hb
 obtain ⟨r,hr⟩:∃ r,zto (bts a) (bts b)=r:=⟨_,rfl⟩
 rw [hr] at h |-
 obtain ⟨r1,r2⟩:=r
 clear ha hb hr
 go_enter Tryz.func100,Tryz.ntmps100
 go_wp2_with fail
 refine (h _).mono ?_
 rintro e w1 ⟨rfl,hb⟩
 have HB:=ze hb
 clear h hb
 go_wp2_with fail
 go_ret
 exact ⟨rfl,HB.out⟩
theorem zo0 (a b:ByteArray) (w:World) (ha:a.size<=1073741824) (hb:b.size<=1073741824):
 Calls Tryz.prog 22 #[.string a,.string b] w (vO w (str (op2 (· + ·) (bts a) (bts b)).1)):=by
 have h:=fun w=>zwh a b w ha hb
 obtain ⟨r,hr⟩:∃ r,op2 (· + ·) (bts a) (bts b)=r:=⟨_,rfl⟩
 rw [hr] at h |-
 obtain ⟨r1,r2⟩:=r
 clear ha hb hr
 go_enter Tryz.func22,Tryz.ntmps22
 go_wp2_with fail
 refine (h _).mono ?_
 rintro e w1 ⟨rfl,hb⟩
 have HB:=ze hb
 clear h hb
 go_wp2_with fail
 go_ret
 exact ⟨rfl,HB.out⟩
theorem zku (a b:ByteArray) (w:World) (ha:a.size<=1073741824) (hb:b.size<=1073741824):
 Calls Tryz.prog 24 #[.string a,.string b] w (vO w (str (op2 (· - ·) (bts a) (bts b)).1)):=by
 have h:=fun w=>zwq a b w ha hb
 obtain ⟨r,hr⟩:∃ r,op2 (· - ·) (bts a) (bts b)=r:=⟨_,rfl⟩
 rw [hr] at h |-
 obtain ⟨r1,r2⟩:=r
 clear ha hb hr
 go_enter Tryz.func24,Tryz.ntmps24
 go_wp2_with fail
 refine (h _).mono ?_
 rintro e w1 ⟨rfl,hb⟩
 have HB:=ze hb
 clear h hb
 go_wp2_with fail
 go_ret
 exact ⟨rfl,HB.out⟩
theorem zl9 (a b:ByteArray) (w:World) (ha:a.size<=1073741824) (hb:b.size<=1073741824):
 Calls Tryz.prog 23 #[.string a,.string b] w (vO w (str (op2 (· * ·) (bts a) (bts b)).1)):=by
 have h:=fun w=>zxn a b w ha hb
 obtain ⟨r,hr⟩:∃ r,op2 (· * ·) (bts a) (bts b)=r:=⟨_,rfl⟩
 rw [hr] at h |-
 obtain ⟨r1,r2⟩:=r
 clear ha hb hr
 go_enter Tryz.func23,Tryz.ntmps23
 go_wp2_with fail
 refine (h _).mono ?_
 rintro e w1 ⟨rfl,hb⟩
 have HB:=ze hb
 clear h hb
 go_wp2_with fail
 go_ret
 exact ⟨rfl,HB.out⟩
theorem zp7 (a b:ByteArray) (w:World) (ha:a.size<=1073741824) (hb:b.size<=1073741824):
 Calls Tryz.prog 41 #[.string a,.string b] w (vO w (str (ztp (bts a) (bts b)).1)):=by
 have h:=fun w=>zwi a b w ha hb
 obtain ⟨r,hr⟩:∃ r,ztp (bts a) (bts b)=r:=⟨_,rfl⟩
 rw [hr] at h |-
 obtain ⟨r1,r2⟩:=r
 clear ha hb hr
 go_enter Tryz.func41,Tryz.ntmps41
 go_wp2_with fail
 refine (h _).mono ?_
 rintro e w1 ⟨rfl,hb⟩
 have HB:=ze hb
 clear h hb
 go_wp2_with fail
 go_ret
 exact ⟨rfl,HB.out⟩
def YL (p:zee):List Value:=[str p.name,.int .i64 p.from_,.int .i64 p.to_,str p.low,str p.high]
def Zt (v:yU):List Value:=[.int .i64 v.node,str v.value]
def yM (l:List zee):List Value:=l.flatMap YL
def yF (l:List yU):List Value:=l.flatMap Zt
def zV (l:List UInt8):Prop:=l.length<=1073741824
theorem za2 (l:List yU):(yF l).length=2*l.length:=by
 induction l with
 | nil=>rfl
 | cons v l ih=>simp only [yF,List.flatMap_cons,List.length_append,List.length_cons] at ih |-;rw [ih];simp [Zt];omega
theorem zce (l:List zee):(yM l).length=5*l.length:=by
 induction l with
 | nil=>rfl
 | cons v l ih=>simp only [yM,List.flatMap_cons,List.length_append,List.length_cons] at ih |-;rw [ih];simp [YL];omega
theorem Vn {l:List yU} {k:Nat} (hk:k<l.length):(yF l)[2*k]?=some (.int .i64 l[k].node)/\(yF l)[2*k+1]?=some (str l[k].value):=by
 induction l generalizing k with
 | nil=>simp at hk
 | cons v l ih=>
   cases k with
   | zero=>simp [yF,Zt]
   | succ k=>
     have:=ih (k:=k) (by simpa using hk);have e:2*(k+1)=2*k+2:=by omega
     rw [e]
     simpa [yF,Zt] using this
theorem VJ {l:List zee} {k:Nat} (hk:k<l.length):(yM l)[5*k]?=some (str l[k].name)/\(yM l)[5*k+1]?=some (.int .i64 l[k].from_)/\
 (yM l)[5*k+2]?=some (.int .i64 l[k].to_)/\(yM l)[5*k+3]?=some (str l[k].low)/\(yM l)[5*k+4]?=some (str l[k].high):=by
 induction l generalizing k with
 | nil=>simp at hk
 | cons v l ih=>
   cases k with
   | zero=>simp [yM,YL]
   | succ k=>
     have:=ih (k:=k) (by simpa using hk);have e:5*(k+1)=5*k+5:=by omega
     rw [e]
     simpa [yM,YL] using this
def yk (w:World) (v:Value) (l:List yU):Prop:=
 ∃ A c,v= .slice A l.length c/\l.length<=c/\c<=maxLen/\l.length<=1000/\zK w w.heap.size 2 A l.length (yF l)/\∀ x∈l,zV x.value
def Yo (w:World) (v:Value) (l:List zee):Prop:=
 ∃ A c,v= .slice A l.length c/\l.length<=c/\c<=maxLen/\l.length<=1000/\zK w w.heap.size 5 A l.length (yM l)/\∀ x∈l,zV x.name/\zV x.low/\zV x.high
def yY (w:World) (v:Value) (l:List (List UInt8)):Prop:=
 ∃ A c,v= .slice A l.length c/\l.length<=c/\c<=maxLen/\l.length<=1000/\zK w w.heap.size 1 A l.length (l.map str)/\∀ x∈l,zV x
def Zw (w:World) (v:Value) (n:Net):Prop:=
 ∃ A0 k0 c0 A1 k1 c1 A2 k2 c2 A3 k3 c3,v= .agg #[.slice A0 k0 c0,.slice A1 k1 c1,.slice A2 k2 c2,.slice A3 k3 c3]/\
  yY w (.slice A0 k0 c0) n.nodes/\Yo w (.slice A1 k1 c1) n.pipes/\yk w (.slice A2 k2 c2) n.heads/\yk w (.slice A3 k3 c3) n.wells
theorem yk.below {w w' :World} {v:Value} {l:List yU} (h:yk w v l) (hb:Below w.heap.size w w'):yk w' v l:=by
 obtain ⟨A,c,h1,h2,h3,h6,h4,h5⟩:=h
 exact ⟨A,c,h1,h2,h3,h6,(h4.below hb).more hb.size,h5⟩
theorem Yo.below {w w' :World} {v:Value} {l:List zee} (h:Yo w v l) (hb:Below w.heap.size w w'):Yo w' v l:=by
 obtain ⟨A,c,h1,h2,h3,h6,h4,h5⟩:=h
 exact ⟨A,c,h1,h2,h3,h6,(h4.below hb).more hb.size,h5⟩
theorem yY.below {w w' :World} {v:Value} {l:List (List UInt8)} (h:yY w v l) (hb:Below w.heap.size w w'):yY w' v l:=by
 obtain ⟨A,c,h1,h2,h3,h6,h4,h5⟩:=h
 exact ⟨A,c,h1,h2,h3,h6,(h4.below hb).more hb.size,h5⟩
theorem Zw.below {w w' :World} {v:Value} {n:Net} (h:Zw w v n) (hb:Below w.heap.size w w'):Zw w' v n:=by
 obtain ⟨A0,k0,c0,A1,k1,c1,A2,k2,c2,A3,k3,c3,h,h0,h1,h2,h3⟩:=h
 exact ⟨A0,k0,c0,A1,k1,c1,A2,k2,c2,A3,k3,c3,h,h0.below hb,h1.below hb,h2.below hb,h3.below hb⟩
theorem vP (ad:Addr) (i j:Nat):(⟨(ad.add i).block,(ad.add i).off+(j+1),none⟩:Addr)=ad.add (i+(j+1)):=by
 unfold Addr.add
 by_cases h:i=0
 . subst h;simp
 rw [if_neg h,if_neg (by omega)];simp [Nat.add_assoc]
theorem Vx (A0:Option Addr) (k0 c0:Nat) (v1 v2 v3:Value) (z:Int) (w:World):
 Calls Tryz.prog 58 #[.agg #[.slice A0 k0 c0,v1,v2,v3],.int .i64 z] w (vO w (.bool (decide (0<=z) && decide (z<(k0:Int))))):=by
 have HW:=ze (zg w (.cells #[.slice A0 k0 c0,v1,v2,v3] 26))
 by_cases h0:0<=z
 . have HE:=ze (show (decide (0<=z) && decide (z<(k0:Int)))=decide (z<(k0:Int)) by rw [decide_eq_true h0];rfl)
   go_enter Tryz.func58,Tryz.ntmps58
   go_wp2_with fail;go_ret;exact ⟨z0 HE.out,HW.out⟩
 have HE:=ze (show (decide (0<=z) && decide (z<(k0:Int)))=false by rw [decide_eq_false h0];rfl)
 go_enter Tryz.func58,Tryz.ntmps58
 go_wp2_with fail;go_ret;exact ⟨z0 HE.out,HW.out⟩
theorem yk.at_ {w:World} {A:Option Addr} {n c:Nat} {l:List yU} (h:yk w (.slice A n c) l) {k:Nat} (hk:k<l.length):
 ∃ ad,A=some ad/\ad.block<w.heap.size/\w.cell? (ad.add (k*2))=some (.int .i64 l[k].node)/\w.cell? ⟨(ad.add (k*2)).block,(ad.add (k*2)).off+1,none⟩=some (str l[k].value):=by
 obtain ⟨A',c',e,h2,h3,_,h4,h5⟩:=h
 injection e with e1 e2 e3
 subst e1 e2 e3
 obtain ⟨ad,rfl,hb,hc⟩:=h4.2 (by omega)
 obtain ⟨g1,g2⟩:=Vn hk
 rw [Nat.mul_comm] at g1 g2
 exact ⟨ad,rfl,hb,hc _ _ g1,by rw [vP ad (k*2) 0];exact hc _ _ g2⟩
theorem zgv {l:List yU} {z:Int} {k:Nat} (hk:k<l.length) (h:∀ j (hj:j<l.length),j<k->l[j].node≠z) (hz:l[k].node=z):l.find? (fun v=>v.node == z)=some l[k]:=by
 rw [List.find?_eq_some_iff_getElem]
 refine ⟨by simpa using hz,k,hk,rfl,?_⟩
 intro j hj
 have:=h j (by omega) hj
 simpa using this
theorem zis {l:List yU} {z:Int} (h:∀ j (hj:j<l.length),l[j].node≠z):l.find? (fun v=>v.node == z)=none:=by
 rw [List.find?_eq_none]
 intro x hx
 obtain ⟨j,hj,rfl⟩:=List.mem_iff_getElem.1 hx
 simpa using h j hj
def zyp (w:World) (l:List yU) (z:Int) (e:Ending) (w' :World):Prop:=
 ∃ v,e= .returned (.tuple #[v,.bool (l.find? (fun v=>v.node == z)).isSome])/\xu w' v (((l.find? (fun v=>v.node == z)).map fun v=>vS v.value).getD 0)/\Below w.heap.size w w'
theorem zar (va:Value) (l:List yU) (z:Int) (w:World) (ha:yk w va l) (hn:∀ v∈l,(zp v.value).isSome=true):
 Calls Tryz.prog 56 #[va,.int .i64 z] w (zyp w l z):=by
 obtain ⟨A,c,rfl,h2,h3,h6,h4,h5⟩:=ha
 have hWR:=zg w (.cells #[.bool false,.slice none 0 0,.slice none 0 0] 63)
 have HWR:=ze hWR
 have HKR:=ze (Blk.new w 63 #[.bool false,.slice none 0 0,.slice none 0 0])
 have HL:Hid (yk _ (.slice A l.length c) l):=ze (yk.below ⟨A,c,rfl,h2,h3,h6,h4,h5⟩ hWR)
 have HN:=ze hn
 have H5:=ze h5
 clear hWR h4 h5 hn
 go_enter Tryz.func56,Tryz.ntmps56
 go_wp2_with fail
 go_loop [6] (fun iv=>∃ k:Nat,k<=l.length/\iv= .int .i64 k/\Hid (∀ j (h:j<l.length),j<k->l[j].node≠z)) (fun iv=>l.length - (intOf iv).toNat)
 case atStart=>exact ⟨0,Nat.zero_le _,rfl,fun j _ h=>by omega⟩
 case round=>
  obtain ⟨k,hk,rfl,HD⟩:=hrel
  by_cases hlt:k<l.length
  rotate_left
  . obtain rfl:k=l.length:=by omega
    have HF:=ze (zis (l:=l) (z:=z) (fun j hj=>HD.out j hj hj));go_wp2_with fail;refine (zmp _).mono ?_;rintro e w1 ⟨v,rfl,hv,hb1⟩;obtain ⟨ng,A,n,c,B,m,d,rfl,h0,h1,h2⟩:=hv;have HK:=ze (HKR.out.below hb1 HKR.out.lt);have HW:=ze (ext HWR.out hb1);have H0:=ze h0;have H1:=ze h1;have H2:=ze h2;have r0:=HK.out.cell 0;have r1:=HK.out.cell 1;have r2:=HK.out.cell 2;have f0:=HK.out.frozen 0;have f1:=HK.out.frozen 1;have f2:=HK.out.frozen 2;have lR:=HK.out.lt;simp at r0 r1 r2;clear hb1 h0 h1 h2;go_wp2_with fail;have kR2:=yL (ng:=ng) (A:=A) (n:=n) (c:=c) (B:=B) (m:=m) (d:=d) HK.out;have e0:=kR2.cell 0;have e1:=kR2.cell 1;have e2:=kR2.cell 2;simp only [World.ref] at e0 e1 e2;simp at e0 e1 e2;refine bodyPost_ret (v:=.tuple #[.agg #[.bool ng,.slice A n c,.slice B m d],.bool false]) (by simp [results,Tryz.results56,go_sem,e0,e1,e2]) rfl ?_;refine ⟨_,by rw [HF.out];rfl,?_,zZ (w:=w) (g:=w.heap.size) HW.out (Nat.le_refl _)⟩;rw [HF.out];exact ⟨_,_,_,_,_,_,_,rfl,H0.out,zU H1.out HK.out,zU H2.out HK.out⟩
  obtain ⟨ad,rfl,hb,c0,c1⟩:=HL.out.at_ hlt
  by_cases hz:l[k].node=z
  . have hI:(l[k].node == z)=true:=by rw [beq_iff_eq];exact hz
    have HF:=ze (zgv hlt HD.out hz);have hm:l[k]∈l:=List.getElem_mem hlt
    have hmust:=fun w=>V5 ⟨l[k].value.toArray⟩ (vS l[k].value) w (by have:=H5.out _ hm;rw [<- zm,yy];exact this) (by
     rw [yy];have:=HN.out _ hm;unfold vS
     cases hr:zp l[k].value with
     | none=>rw [hr] at this;cases this
     | some q=>rfl)
    clear hz hm;go_wp2_with fail;refine (hmust _).mono ?_;rintro e w1 ⟨v,rfl,hv,hb1⟩;obtain ⟨ng,A,n,c,B,m,d,rfl,h0,h1,h2⟩:=hv;have HK:=ze (HKR.out.below hb1 HKR.out.lt);have HW:=ze (ext HWR.out hb1);have H0:=ze h0;have H1:=ze h1;have H2:=ze h2;have r0:=HK.out.cell 0;have r1:=HK.out.cell 1;have r2:=HK.out.cell 2;have f0:=HK.out.frozen 0;have f1:=HK.out.frozen 1;have f2:=HK.out.frozen 2;have lR:=HK.out.lt;simp at r0 r1 r2;clear hb1 h0 h1 h2 hmust;go_wp2_with fail;have kR2:=yL (ng:=ng) (A:=A) (n:=n) (c:=c) (B:=B) (m:=m) (d:=d) HK.out;have e0:=kR2.cell 0;have e1:=kR2.cell 1;have e2:=kR2.cell 2;simp only [World.ref] at e0 e1 e2;simp at e0 e1 e2;refine bodyPost_ret (v:=.tuple #[.agg #[.bool ng,.slice A n c,.slice B m d],.bool true]) (by simp [results,Tryz.results56,go_sem,e0,e1,e2]) rfl ?_;refine ⟨_,by rw [HF.out];rfl,?_,zZ (w:=w) (g:=w.heap.size) HW.out (Nat.le_refl _)⟩;rw [HF.out];exact ⟨_,_,_,_,_,_,_,rfl,H0.out,zU H1.out HK.out,zU H2.out HK.out⟩
  have hI:(l[k].node == z)=false:=by rw [beq_eq_false_iff_ne];exact hz
  have HZ:=ze hz;clear hz;go_wp2_with fail;go_round
  case rel=>
   refine ⟨k+1,by omega,by go_num,?_⟩;intro j hj hlt2
   rcases Nat.lt_or_ge j k with h3 | h3
   . exact HD.out j hj h3
   . obtain rfl:j=k:=by omega
     exact HZ.out
  case measure=>simp [intOf];omega
theorem VG {ad:Addr} {i:Nat} {v:Value} {w w' :World} (hb:Below w.heap.size w w') (hl:ad.block<w.heap.size) (h:w.cell? (ad.add i)=some v):w'.cell? (ad.add i)=some v:=
 (hb.cell (by rw [zy];exact hl)).trans h
def LvsR (n:Net) (l:List yU) (w:World) (cs:Array Value) (iv:Value) (wr:World):Prop:=
 ∃ k:Nat,k<=l.length/\iv= .int .i64 k/\Hid (∀ j,j<k->n.levelErr l j=0)/\Hid (Blk wr w.heap.size 26 cs)/\Hid (Below w.heap.size w wr)
def LvsI (l:List yU) (z:Int) (k:Nat) (w:World) (cs:Array Value) (iv:Value) (wr:World):Prop:=
 ∃ j:Nat,j<=k/\iv= .int .i64 j/\Hid (∀ i (h:i<l.length),i<j->l[i].node≠z)/\Hid (Blk wr w.heap.size 26 cs)/\Hid (Below w.heap.size w wr)
theorem zcz (n:Net) {l:List yU} {k:Nat} (hk:k<l.length):n.levelErr l k=(if (decide (0<=l[k].node) && decide (l[k].node<(n.nodes.length:Int)))=false then 7 else if l[k].node∈(l.take k).map (·.node) then 6 else zY l[k].value):=by
 unfold Net.levelErr
 have e:l.getD k default=l[k]:=by simp [List.getD,List.getElem?_eq_getElem hk]
 rw [e]
 have h:(l[k].node<0\/(n.nodes.length:Int)<=l[k].node)↔(decide (0<=l[k].node) && decide (l[k].node<(n.nodes.length:Int)))=false:=by
  rw [Bool.and_eq_false_iff,decide_eq_false_iff_not,decide_eq_false_iff_not];omega
 simp only [h]
theorem zap {l:List yU} {z:Int} {k:Nat} (hk:k<=l.length):z∈(l.take k).map (·.node)↔∃ j,∃ h:j<l.length,j<k/\l[j].node=z:=by
 rw [List.mem_map]
 constructor
 . rintro ⟨x,hx,rfl⟩
   obtain ⟨j,hj,rfl⟩:=List.mem_iff_getElem.1 hx;rw [List.length_take] at hj;exact ⟨j,by omega,by omega,by rw [List.getElem_take]⟩
 rintro ⟨j,h,hj,rfl⟩
 refine ⟨l[j],?_,rfl⟩;rw [List.mem_iff_getElem];exact ⟨j,by rw [List.length_take];omega,by rw [List.getElem_take]⟩
theorem zgp (vn va:Value) (n:Net) (l:List yU) (w:World) (hn:Zw w vn n) (ha:yk w va l):
 Calls Tryz.prog 55 #[vn,va] w (vO w (.int .i64 (zW l.length (n.levelErr l)))):=by
 obtain ⟨A0,k0,c0,A1,k1,c1,A2,k2,c2,A3,k3,c3,rfl,hn0,hn1,hn2,hn3⟩:=hn
 have hk0:k0=n.nodes.length:=by obtain ⟨A',c',e,_⟩:=hn0;injection e
 obtain ⟨A,c,rfl,h2,h3,h6,h4,h5⟩:=ha
 have HWR:=ze (zg w (.cells #[.slice A0 k0 c0,.slice A1 k1 c1,.slice A2 k2 c2,.slice A3 k3 c3] 26))
 have HKR:=ze (Blk.new w 26 #[.slice A0 k0 c0,.slice A1 k1 c1,.slice A2 k2 c2,.slice A3 k3 c3])
 have HL:Hid (yk w (.slice A l.length c) l):=ze ⟨A,c,rfl,h2,h3,h6,h4,h5⟩
 have HK0:=ze hk0
 have H5:=ze h5
 clear hn0 hn1 hn2 hn3 h4 h5 hk0
 go_enter Tryz.func55,Tryz.ntmps55
 go_wp2_with fail
 go_loopw [5] (LvsR n l w #[.slice A0 k0 c0,.slice A1 k1 c1,.slice A2 k2 c2,.slice A3 k3 c3]) (fun iv _=>l.length - (intOf iv).toNat)
 case atStart=>exact ⟨0,Nat.zero_le _,rfl,fun j h=>by omega,HKR,HWR⟩
 case round=>
  clear HWR HKR
  obtain ⟨k,hk,rfl,HD,HKR,HWR⟩:=hrel
  by_cases hlt:k<l.length
  rotate_left
  . obtain rfl:k=l.length:=by omega
    have HE:=ze (show zW l.length (n.levelErr l)=0 from zN.2 HD.out);go_wp2_with fail;go_ret;exact ⟨zr HE.out,HWR.out⟩
  obtain ⟨ad,rfl,hb,p0,p1⟩:=(HL.out.below HWR.out).at_ hlt
  have r0:=HKR.out.cell 0;have r1:=HKR.out.cell 1;have r2:=HKR.out.cell 2;have r3:=HKR.out.cell 3;have lR:=HKR.out.lt;simp at r0 r1 r2 r3;have HEK:=ze (zcz n hlt);rw [<- HK0.out] at HEK;have hth:=fun v1 v2 v3 w=>Vx A0 k0 c0 v1 v2 v3 l[k].node w
  obtain ⟨tb,htb⟩:∃ tb,(decide (0<=l[k].node) && decide (l[k].node<(k0:Int)))=tb:=⟨_,rfl⟩;rw [htb] at HEK;simp only [htb] at hth;clear htb;have HRES:=ze (show Blk wr.drew w.heap.size 26 #[.slice A0 k0 c0,.slice A1 k1 c1,.slice A2 k2 c2,.slice A3 k3 c3] from HKR.out.drew);have HWX:=ze (show Below w.heap.size w wr.drew from zo HWR.out 1);go_wp2_with fail
  go_region_held3 (fun w' =>w'.cell? ⟨w.heap.size,0,none⟩=some (.slice A0 k0 c0)/\w'.cell? ⟨w.heap.size,1,none⟩=some (.slice A1 k1 c1)/\w'.cell? ⟨w.heap.size,2,none⟩=some (.slice A2 k2 c2)/\w'.cell? ⟨w.heap.size,3,none⟩=some (.slice A3 k3 c3)/\w'.cell? (ad.add (k*2))=some (.int .i64 l[k].node)/\w.heap.size<w'.heap.size/\ad.block<w'.heap.size/\Hid (Blk w' w.heap.size 26 #[.slice A0 k0 c0,.slice A1 k1 c1,.slice A2 k2 c2,.slice A3 k3 c3])/\Hid (Below w.heap.size w w'))
   (first
     | with_reducible exact ⟨by go_keep,by go_keep,by go_keep,by go_keep,by go_keep,by assumption,by assumption,HRES,HWX⟩
     | (go_split_ands;with_reducible exact ⟨zj ‹_› ‹_› ‹_›,zj ‹_› ‹_› ‹_›,zj ‹_› ‹_› ‹_›,zj ‹_› ‹_› ‹_›,VG ‹_› ‹_› ‹_›,zA ‹_› ‹_›,zA ‹_› ‹_›,ZP ‹_› ‹_›,zu ‹_› ‹_›⟩)
     | go_keep)
   (first
     | (go_at_call 58;refine (hth _ _ _ _).mono ?_;rintro e w1 ⟨rfl,hb1⟩))
  all_goals
   go_split_ands;have HK1:Hid (Blk w1 w.heap.size 26 #[.slice A0 k0 c0,.slice A1 k1 c1,.slice A2 k2 c2,.slice A3 k3 c3]):=by assumption
   have HW1:Hid (Below w.heap.size w w1):=by assumption
   clear hth HRES HWX
   cases tb
   . have HF:=ze (show zW l.length (n.levelErr l)=7 by
      have h7:n.levelErr l k=7:=HEK.out
      rw [xO hlt HD.out (by rw [h7];decide),h7])
     go_wp2_with fail;go_ret;exact ⟨zr HF.out,HW1.out⟩
   have HEK2:=ze (HEK.out.trans (if_neg (by decide)))
   clear p0 p1 r0 r1 r2 r3 HEK HKR HWR;go_wp2_with fail
   go_loopw [6] (LvsI l l[k].node k w #[.slice A0 k0 c0,.slice A1 k1 c1,.slice A2 k2 c2,.slice A3 k3 c3]) (fun iv _=>k - (intOf iv).toNat)
   case atStart=>exact ⟨0,Nat.zero_le _,rfl,fun j _ h=>by omega,HK1,HW1⟩
   case round=>
    clear HK1 HW1;obtain ⟨j,hj,rfl,HJ,HK1,HW1⟩:=hrel;have hbw:=(HL.out.below HW1.out);obtain ⟨ad1,e1,hb9,q0,q1⟩:=hbw.at_ hlt;injection e1 with e1
    subst e1
    by_cases hjk:j<k
    rotate_left
    . obtain rfl:j=k:=by omega
      clear hbw
      have hnm:¬ l[j].node∈(l.take j).map (·.node):=by
       intro hm;obtain ⟨i,hi,hij,hz⟩:=(zap (by omega)).1 hm;exact HJ.out i hi hij hz
      have HNE:=ze (HEK2.out.trans (if_neg hnm));have hm:l[j]∈l:=List.getElem_mem hlt;have hnum:=fun w=>Yz ⟨l[j].value.toArray⟩ w (by have:=H5.out _ hm;rw [<- zm,yy];exact this)
      rw [yy] at hnum;obtain ⟨ev,hev⟩:∃ ev,zY l[j].value=ev:=⟨_,rfl⟩;rw [hev] at hnum HNE;clear hnm hm hev
      by_cases h0:ev=0
      rotate_left
      . have hI:(ev != 0)=true:=by rw [bne_iff_ne];exact h0
        have HF:=ze (show zW l.length (n.levelErr l)=ev by
         rw [xO hlt HD.out (by rw [HNE.out];exact h0),HNE.out])
        clear h0;go_wp2_with fail;refine (hnum _).mono ?_;rintro e w2 ⟨rfl,hb2⟩;have HW2:=ze (ext HW1.out hb2);clear hb2 hnum q0 q1;go_wp2_with fail;go_ret;exact ⟨zr HF.out,HW2.out⟩
      subst h0
      go_wp2_with fail;refine (hnum _).mono ?_;rintro e w2 ⟨rfl,hb2⟩;have HK2:=ze (HK1.out.below hb2 HK1.out.lt);have HW2:=ze (ext HW1.out hb2);clear hb2 hnum q0 q1;go_wp2_with fail;go_round
      case rel=>
       refine ⟨j+1,by omega,by go_num,?_,HK2.out,HW2.out⟩;intro i hi
       rcases Nat.lt_or_ge i j with h3 | h3
       . exact HD.out i h3
       . obtain rfl:i=j:=by omega
         exact HNE.out
      case measure=>simp [intOf];omega
    obtain ⟨ad1,e1,_,q2,_⟩:=hbw.at_ (show j<l.length by omega)
    injection e1 with e1
    subst e1;have hjl:j<l.length:=by omega
    clear hbw
    by_cases hz:l[j].node=l[k].node
    . have hI:(l[j].node == l[k].node)=true:=by rw [beq_iff_eq];exact hz
      have HF:=ze (show zW l.length (n.levelErr l)=6 by
       have h6:n.levelErr l k=6:=by
        rw [HEK2.out,if_pos ((zap (by omega)).2 ⟨j,hjl,hjk,hz⟩)]
       rw [xO hlt HD.out (by rw [h6];decide),h6])
      clear hz;go_wp2_with fail
      go_quiet (fail)
      go_wp2_with fail;go_ret;exact ⟨zr HF.out,zo HW1.out _⟩
    have hI:(l[j].node == l[k].node)=false:=by rw [beq_eq_false_iff_ne];exact hz
    have HZ:=ze hz;clear hz;go_wp2_with fail
    go_quiet (fail)
    go_wp2_with fail;go_round
    case rel=>
     refine ⟨j+1,by omega,by go_num,?_,HK1.out.below (zw _ _) HK1.out.lt,zo HW1.out _⟩;intro i hi hlt2
     rcases Nat.lt_or_ge i j with h3 | h3
     . exact HJ.out i hi h3
     . obtain rfl:i=j:=by omega
       exact HZ.out
    case measure=>simp [intOf];omega
theorem Yo.at_ {w:World} {A:Option Addr} {n c:Nat} {l:List zee} (h:Yo w (.slice A n c) l) {k:Nat} (hk:k<l.length):
 ∃ ad,A=some ad/\ad.block<w.heap.size/\w.cell? (ad.add (k*5))=some (str l[k].name)/\w.cell? ⟨(ad.add (k*5)).block,(ad.add (k*5)).off+1,none⟩=some (.int .i64 l[k].from_)/\
  w.cell? ⟨(ad.add (k*5)).block,(ad.add (k*5)).off+2,none⟩=some (.int .i64 l[k].to_)/\w.cell? ⟨(ad.add (k*5)).block,(ad.add (k*5)).off+3,none⟩=some (str l[k].low)/\
  w.cell? ⟨(ad.add (k*5)).block,(ad.add (k*5)).off+4,none⟩=some (str l[k].high):=by
 obtain ⟨A',c',e,h2,h3,_,h4,h5⟩:=h
 injection e with e1 e2 e3
 subst e1 e2 e3
 obtain ⟨ad,rfl,hb,hc⟩:=h4.2 (by omega)
 obtain ⟨g1,g2,g3,g4,g5⟩:=VJ hk
 rw [Nat.mul_comm] at g1 g2 g3 g4 g5
 exact ⟨ad,rfl,hb,hc _ _ g1,by rw [vP ad (k*5) 0];exact hc _ _ g2,by rw [vP ad (k*5) 1];exact hc _ _ g3,by rw [vP ad (k*5) 2];exact hc _ _ g4,by rw [vP ad (k*5) 3];exact hc _ _ g5⟩
theorem zbc {l:List zee} {z:List UInt8} {k:Nat} (hk:k<=l.length):z∈(l.take k).map (·.name)↔∃ j,∃ h:j<l.length,j<k/\l[j].name=z:=by
 rw [List.mem_map]
 constructor
 . rintro ⟨x,hx,rfl⟩
   obtain ⟨j,hj,rfl⟩:=List.mem_iff_getElem.1 hx;rw [List.length_take] at hj;exact ⟨j,by omega,by omega,by rw [List.getElem_take]⟩
 rintro ⟨j,h,hj,rfl⟩
 refine ⟨l[j],?_,rfl⟩;rw [List.mem_iff_getElem];exact ⟨j,by rw [List.length_take];omega,by rw [List.getElem_take]⟩
theorem zfg (n:Net) {k:Nat} (hk:k<n.pipes.length):n.pipeErr k=
 if vr n.pipes[k].name=false then 5
 else if n.pipes[k].name∈(n.pipes.take k).map (·.name) then 6
 else if (decide (0<=n.pipes[k].from_) && decide (n.pipes[k].from_<(n.nodes.length:Int)))=false\/(decide (0<=n.pipes[k].to_) && decide (n.pipes[k].to_<(n.nodes.length:Int)))=false then 7
 else if n.pipes[k].from_=n.pipes[k].to_ then 1
 else if zY n.pipes[k].low≠0 then zY n.pipes[k].low
 else if zY n.pipes[k].high≠0 then zY n.pipes[k].high
 else if vS n.pipes[k].low<=0\/vS n.pipes[k].high<vS n.pipes[k].low then 1 else 0:=by
 unfold Net.pipeErr
 have e:n.pipes.getD k default=n.pipes[k]:=by simp [List.getD,List.getElem?_eq_getElem hk]
 simp only [e]
 have h:(n.pipes[k].from_<0\/(n.nodes.length:Int)<=n.pipes[k].from_\/n.pipes[k].to_<0\/(n.nodes.length:Int)<=n.pipes[k].to_)↔
  ((decide (0<=n.pipes[k].from_) && decide (n.pipes[k].from_<(n.nodes.length:Int)))=false\/(decide (0<=n.pipes[k].to_) && decide (n.pipes[k].to_<(n.nodes.length:Int)))=false):=by
  rw [Bool.and_eq_false_iff,Bool.and_eq_false_iff,decide_eq_false_iff_not,decide_eq_false_iff_not,decide_eq_false_iff_not,decide_eq_false_iff_not];omega
 simp only [h]
theorem zhe {q:Rat}:q.num.sign<=0↔q<=0:=by
 have h1:0<=(-q).num↔0<= -q:=Rat.num_nonneg
 rw [Rat.neg_num] at h1
 have h2:0<= -q↔q<=0:=by constructor<;>intro h<;>grind
 rw [<- h2, <- h1]
 constructor
 . intro h
   apply Classical.byContradiction
   intro h1;have:=Int.sign_eq_one_of_pos (a:=q.num) (by omega)
   omega
 intro h
 rcases Int.lt_or_eq_of_le (show q.num<=0 by omega) with h3 | h3
 . rw [Int.sign_eq_neg_one_of_neg h3];omega
 . rw [h3];decide
theorem sgn3 (q:Rat):(q<=0/\q.num.sign= -1)\/(q<=0/\q.num.sign=0)\/(¬ q<=0/\q.num.sign=1):=by
 rcases Int.lt_trichotomy q.num 0 with h | h | h
 . have:=Int.sign_eq_neg_one_of_neg h
   exact .inl ⟨zhe.1 (by omega),this⟩
 . have h2:q.num.sign=0:=by rw [h];rfl
   exact .inr (.inl ⟨zhe.1 (by omega),h2⟩)
 . have:=Int.sign_eq_one_of_pos h
   exact .inr (.inr ⟨fun h3=>by have:=zhe.2 h3;omega,this⟩)
theorem znj {x y:Rat}:0<(x - y).num.sign↔y<x:=by
 have h:=zhe (q:=x - y)
 have h2:x - y<=0↔x<=y:=by constructor<;>intro h<;>grind
 constructor
 rotate_left
 . intro h1
   apply Classical.byContradiction
   intro h3;have:=h2.1 (h.1 (by omega));exact absurd h1 (Rat.not_lt.2 this)
 intro h1
 apply Classical.byContradiction
 intro h3;have:=h.2 (h2.2 (Rat.not_lt.1 h3))
 omega
def PipR (l:List zee) (z:List UInt8) (i:Nat) (w:World) (csN csP:Array Value) (vp iv:Value) (wr:World):Prop:=
 ∃ j:Nat,j<=i/\iv= .int .i64 j/\Hid (∀ m (h:m<l.length),m<j->l[m].name≠z)/\Hid (Blk wr w.heap.size 26 csN)/\Hid (Blk wr (w.heap.size+1) 41 csP)/\
  Hid (Below w.heap.size w wr)/\Hid (Yo wr vp l)
theorem zvn (vn:Value) (n:Net) (i:Nat) (w:World) (hn:Zw w vn n) (hi:i<n.pipes.length):
 Calls Tryz.prog 54 #[vn,.int .i64 (i:Int)] w (vO w (.int .i64 (n.pipeErr i))):=by
 obtain ⟨A0,k0,c0,A1,k1,c1,A2,k2,c2,A3,k3,c3,rfl,hn0,hn1,hn2,hn3⟩:=hn
 have hk0:k0=n.nodes.length:=by obtain ⟨A',c',e,_⟩:=hn0;injection e
 have hk1:k1=n.pipes.length:=by obtain ⟨A',c',e,_⟩:=hn1;injection e
 have hx:=zg w (.cells #[.slice A0 k0 c0,.slice A1 k1 c1,.slice A2 k2 c2,.slice A3 k3 c3] 26)
 have hp:=hn1.below hx
 obtain ⟨ad,rfl,hb,p0,p1,p2,p3,p4⟩:=hp.at_ hi
 have h1000:k1<=1000:=by obtain ⟨A',c',e,_,_,h6,_⟩:=hn1;omega
 have hi1:i<k1:=by omega
 have HK0:=ze hk0
 have HK1:=ze hk1
 have HE:=ze (zfg n hi)
 have HS:Hid (zV n.pipes[i].name/\zV n.pipes[i].low/\zV n.pipes[i].high):=by
  obtain ⟨A',c',e,_,_,h6,_,h7⟩:=hn1
  exact h7 _ (List.getElem_mem hi)
 have HPP:=ze hp
 have HX:=ze hx
 clear hn0 hn1 hn2 hn3 hp hx hk0 hk1
 go_enter Tryz.func54,Tryz.ntmps54
 go_wp2_with fail
 have HKP:Hid (Blk ((w.alloc (.cells #[.slice A0 k0 c0,.slice (some ad) k1 c1,.slice A2 k2 c2,.slice A3 k3 c3] 26)).alloc (.cells #[str n.pipes[i].name,.int .i64 n.pipes[i].from_,.int .i64 n.pipes[i].to_,str n.pipes[i].low,str n.pipes[i].high] 41)) (w.heap.size+1) 41 #[str n.pipes[i].name,.int .i64 n.pipes[i].from_,.int .i64 n.pipes[i].to_,str n.pipes[i].low,str n.pipes[i].high]):=by
  have h:=Blk.new (w.alloc (.cells #[.slice A0 k0 c0,.slice (some ad) k1 c1,.slice A2 k2 c2,.slice A3 k3 c3] 26)) 41 #[str n.pipes[i].name,.int .i64 n.pipes[i].from_,.int .i64 n.pipes[i].to_,str n.pipes[i].low,str n.pipes[i].high]
  simp only [World.size_alloc] at h
  exact h
 have hy:=zg (w.alloc (.cells #[.slice A0 k0 c0,.slice (some ad) k1 c1,.slice A2 k2 c2,.slice A3 k3 c3] 26)) (.cells #[str n.pipes[i].name,.int .i64 n.pipes[i].from_,.int .i64 n.pipes[i].to_,str n.pipes[i].low,str n.pipes[i].high] 41)
 have HKN:=ze ((Blk.new w 26 #[.slice A0 k0 c0,.slice (some ad) k1 c1,.slice A2 k2 c2,.slice A3 k3 c3]).below hy (Blk.new w 26 #[.slice A0 k0 c0,.slice (some ad) k1 c1,.slice A2 k2 c2,.slice A3 k3 c3]).lt)
 have HW:=ze (ext HX.out hy)
 have HPL:=ze (HPP.out.below hy)
 clear HPP HX p0 p1 p2 p3 p4 hb hy
 generalize (w.alloc (.cells #[.slice A0 k0 c0,.slice (some ad) k1 c1,.slice A2 k2 c2,.slice A3 k3 c3] 26)).alloc (.cells #[str n.pipes[i].name,.int .i64 n.pipes[i].from_,.int .i64 n.pipes[i].to_,str n.pipes[i].low,str n.pipes[i].high] 41)=W at HKP HKN HW HPL |-
 refine (zn0 _ W (by have:=HS.out.1;rw [<- zm,yy];exact this)).mono ?_
 rintro e w1 ⟨rfl,rfl⟩
 rw [yy]
 cases hnm:vr n.pipes[i].name with
 | false=>
   have HF:=ze (HE.out.trans (if_pos hnm));clear hnm;go_wp2_with fail;go_ret;exact ⟨zr HF.out,HW.out⟩
 | true=>
   have HE2:=ze (HE.out.trans (if_neg (by rw [hnm];decide)));clear hnm HE;go_wp2_with fail
   go_loopw [6] (PipR n.pipes n.pipes[i].name i w #[.slice A0 k0 c0,.slice (some ad) k1 c1,.slice A2 k2 c2,.slice A3 k3 c3] #[str n.pipes[i].name,.int .i64 n.pipes[i].from_,.int .i64 n.pipes[i].to_,str n.pipes[i].low,str n.pipes[i].high] (.slice (some ad) k1 c1)) (fun iv _=>i - (intOf iv).toNat)
   case atStart=>exact ⟨0,Nat.zero_le _,rfl,fun j _ h=>by omega,HKN,HKP,HW,HPL⟩
   case round=>
    clear HKN HKP HW HPL;obtain ⟨j,hj,rfl,HJ,HKN,HKP,HW,HPL⟩:=hrel;have r0:=HKN.out.cell 0;have r1:=HKN.out.cell 1;have r2:=HKN.out.cell 2;have r3:=HKN.out.cell 3;have s0:=HKP.out.cell 0;have s1:=HKP.out.cell 1;have s2:=HKP.out.cell 2;have s3:=HKP.out.cell 3;have s4:=HKP.out.cell 4;simp at r0 r1 r2 r3 s0 s1 s2 s3 s4
    by_cases hji:j<i
    . obtain ⟨ad1,e1,hb,p0,_⟩:=HPL.out.at_ (show j<n.pipes.length by omega)
      injection e1 with e1
      subst e1;have hjl:j<n.pipes.length:=by omega
      have hj1:j<k1:=by omega
      by_cases hz:n.pipes[j].name=n.pipes[i].name
      . have hI:(n.pipes[j].name == n.pipes[i].name)=true:=by rw [beq_iff_eq];exact hz
        have HF:=ze (HE2.out.trans (if_pos ((zbc (by omega)).2 ⟨j,hjl,hji,hz⟩)));clear hz HE2;go_wp2_with fail
        go_quiet (fail)
        go_wp2_with fail;go_ret;exact ⟨zr HF.out,zo HW.out _⟩
      have hI:(n.pipes[j].name == n.pipes[i].name)=false:=by rw [beq_eq_false_iff_ne];exact hz
      have HZ:=ze hz;clear hz;go_wp2_with fail
      go_quiet (fail)
      go_wp2_with fail;go_round
      case rel=>
       refine ⟨j+1,by omega,by go_num,?_,HKN.out.below (zw _ _) HKN.out.lt,HKP.out.below (zw _ _) HKP.out.lt,zo HW.out _,HPL.out.below (zw _ _)⟩;intro m hm hlt2
       rcases Nat.lt_or_ge m j with h3 | h3
       . exact HJ.out m hm h3
       . obtain rfl:m=j:=by omega
         exact HZ.out
      case measure=>simp [intOf];omega
    obtain rfl:j=i:=by omega
    have hnm:¬ n.pipes[j].name∈(n.pipes.take j).map (·.name):=by
     intro hm;obtain ⟨m,hm,hmj,hz⟩:=(zbc (by omega)).1 hm;exact HJ.out m hm hmj hz
    have HE3:=HE2.out.trans (if_neg hnm);rw [<- HK0.out] at HE3;have h1:=fun v1 v2 v3 w=>Vx A0 k0 c0 v1 v2 v3 n.pipes[j].from_ w
    have h2:=fun v1 v2 v3 w=>Vx A0 k0 c0 v1 v2 v3 n.pipes[j].to_ w
    obtain ⟨t1,ht1⟩:∃ t1,(decide (0<=n.pipes[j].from_) && decide (n.pipes[j].from_<(k0:Int)))=t1:=⟨_,rfl⟩;obtain ⟨t2,ht2⟩:∃ t2,(decide (0<=n.pipes[j].to_) && decide (n.pipes[j].to_<(k0:Int)))=t2:=⟨_,rfl⟩;simp only [ht1] at h1 HE3;simp only [ht2] at h2 HE3;have HE4:=ze HE3;clear ht1 ht2 hnm HE2 HE3 HJ;go_wp2_with fail;refine (h1 _ _ _ _).mono ?_;rintro e WN ⟨rfl,hbB⟩
    try clear r0 r1 r2 r3 rL s0 s1 s2 s3 s4 sL
    replace HKN:=kb_ HKN hbB;replace HKP:=kb_ HKP hbB;replace HW:=eb_ HW hbB;clear hbB;obtain ⟨r0,r1,r2,r3,rL⟩:=yG HKN.out;obtain ⟨s0,s1,s2,s3,s4,sL⟩:=zj9 HKP.out;clear h1
    cases t1 with
    | false=>
      have HF:=ze (HE4.out.trans (if_pos (.inl rfl)));clear h2 HE4;go_wp2_with fail;go_ret;exact ⟨zr HF.out,HW.out⟩
    | true=>
      go_wp2_with fail;refine (h2 _ _ _ _).mono ?_;rintro e WN ⟨rfl,hbB⟩
      try clear r0 r1 r2 r3 rL s0 s1 s2 s3 s4 sL
      replace HKN:=kb_ HKN hbB;replace HKP:=kb_ HKP hbB;replace HW:=eb_ HW hbB;clear hbB;obtain ⟨r0,r1,r2,r3,rL⟩:=yG HKN.out;obtain ⟨s0,s1,s2,s3,s4,sL⟩:=zj9 HKP.out;clear h2
      cases t2 with
      | false=>
        have HF:=ze (HE4.out.trans (if_pos (.inr rfl)));clear HE4;go_wp2_with fail;go_ret;exact ⟨zr HF.out,HW.out⟩
      | true=>
        have HE5:=ze (HE4.out.trans (if_neg (by simp)));clear HE4
        by_cases hft:n.pipes[j].from_=n.pipes[j].to_
        . have hI:(n.pipes[j].from_ == n.pipes[j].to_)=true:=by rw [beq_iff_eq];exact hft
          have HF:=ze (HE5.out.trans (if_pos hft));clear hft HE5;go_wp2_with fail;go_ret;exact ⟨zr HF.out,HW.out⟩
        have hI:(n.pipes[j].from_ == n.pipes[j].to_)=false:=by rw [beq_eq_false_iff_ne];exact hft
        have HE6:=ze (HE5.out.trans (if_neg hft));clear hft HE5;have hl:=fun w=>Yz ⟨n.pipes[j].low.toArray⟩ w (by have:=HS.out.2.1;rw [<- zm,yy];exact this)
        have hh:=fun w=>Yz ⟨n.pipes[j].high.toArray⟩ w (by have:=HS.out.2.2;rw [<- zm,yy];exact this)
        rw [yy] at hl hh;go_wp2_with fail;refine (hl _).mono ?_;rintro e WN ⟨rfl,hbB⟩
        try clear r0 r1 r2 r3 rL s0 s1 s2 s3 s4 sL
        replace HKN:=kb_ HKN hbB;replace HKP:=kb_ HKP hbB;replace HW:=eb_ HW hbB;clear hbB;obtain ⟨r0,r1,r2,r3,rL⟩:=yG HKN.out;obtain ⟨s0,s1,s2,s3,s4,sL⟩:=zj9 HKP.out;clear hl
        by_cases h0:zY n.pipes[j].low=0
        rotate_left
        . have hI2:(zY n.pipes[j].low != 0)=true:=by rw [bne_iff_ne];exact h0
          have HF:=ze (HE6.out.trans (if_pos h0));clear HE6;generalize zY n.pipes[j].low=ev at hI2 HF |-;go_wp2_with fail;go_ret;exact ⟨zr HF.out,HW.out⟩
        rw [h0]
        have HE7:=ze (HE6.out.trans (if_neg (by rw [h0];decide)));clear HE6;go_wp2_with fail;refine (hh _).mono ?_;rintro e WN ⟨rfl,hbB⟩
        try clear r0 r1 r2 r3 rL s0 s1 s2 s3 s4 sL
        replace HKN:=kb_ HKN hbB;replace HKP:=kb_ HKP hbB;replace HW:=eb_ HW hbB;clear hbB;obtain ⟨r0,r1,r2,r3,rL⟩:=yG HKN.out;obtain ⟨s0,s1,s2,s3,s4,sL⟩:=zj9 HKP.out;clear hh
        by_cases h0' :zY n.pipes[j].high=0
        rotate_left
        . have hI2:(zY n.pipes[j].high != 0)=true:=by rw [bne_iff_ne];exact h0'
          have HF:=ze (HE7.out.trans (if_pos h0'));clear HE7;generalize zY n.pipes[j].high=ev at hI2 HF |-;go_wp2_with fail;go_ret;exact ⟨zr HF.out,HW.out⟩
        rw [h0']
        have HE8:=ze (HE7.out.trans (if_neg (by rw [h0'];decide)));clear HE7;obtain ⟨ql,hl1,hl2,hl3,_⟩:=vF h0;obtain ⟨qh,hh1,hh2,hh3,_⟩:=vF h0';rw [hl3,hh3] at HE8;have HNL:=ze ((Vh hl1).mono (show 50000<=8388608 by omega));have HNH:=ze ((Vh hh1).mono (show 50000<=8388608 by omega));have hml:∀ w,Calls Tryz.prog 39 #[str n.pipes[j].low] w (Yg w ql):=fun w=>V5 ⟨n.pipes[j].low.toArray⟩ ql w (by have:=HS.out.2.1;rw [<- zm,yy];exact this) (by rw [yy];exact hl1)
        have hmh:∀ w,Calls Tryz.prog 39 #[str n.pipes[j].high] w (Yg w qh):=fun w=>V5 ⟨n.pipes[j].high.toArray⟩ qh w (by have:=HS.out.2.2;rw [<- zm,yy];exact this) (by rw [yy];exact hh1)
        clear hl1 hl2 hl3 hh1 hh2 hh3 h0 h0' HS HPL;generalize str n.pipes[j].low=sl at HKP s3 hml;generalize str n.pipes[j].high=sh at HKP s4 hmh
        rcases sgn3 ql with ⟨hs,hz⟩ | ⟨hs,hz⟩ | ⟨hs,hz⟩
        rotate_right
        . have HSG:=ze hz
          clear hz;obtain ⟨so,HSO⟩:∃ so,Hid ((ql - qh).num.sign=so):=⟨_,ze rfl⟩;go_wp2_with fail
          (first | (go_region_held3 (fun w' =>Hid (Below WN.heap.size WN w')/\w'.cell? ⟨w.heap.size+1,3,none⟩=some (sl)/\w'.cell? ⟨w.heap.size+1,4,none⟩=some (sh)/\w.heap.size+1<w'.heap.size)
            (first
              | (with_reducible refine zx ?_ (fun hB=>⟨zk hB sL s3,zk hB sL s4,zdf hB sL⟩);with_reducible exact z8 _)
              | (go_split_ands;with_reducible refine zx ?_ (fun hB=>⟨zk hB sL s3,zk hB sL s4,zdf hB sL⟩);first | with_reducible exact zu ‹_› ‹_› | with_reducible exact Zj ‹_› | with_reducible exact zL _ _))
            (first
              | (go_at_call_of 39 sl;refine (hml _).mono ?_;rintro e w1 ⟨v1,rfl,hv1,hb1⟩;have HM1:=ze hv1;clear hv1)
              | (go_at_call 38;refine (YZ _ ql _ HM1.out).mono ?_;rw [HSG.out];rintro e w2 ⟨rfl,hb2⟩)
              | (go_at_call_of 39 sh;refine (hmh _).mono ?_;rintro e w3 ⟨v3,rfl,hv3,hb3⟩;have HM3:=ze hv3;clear hv3)
              | (go_at_call 37;refine (Zo _ _ ql qh _ (HM1.out.below hb3) HM3.out HNL.out HNH.out).mono ?_;rw [HSO.out];rintro e w4 ⟨rfl,hb4⟩))) | fail "region")
          go_split_ands;have HBZ:=zB (by assumption:Hid (Below WN.heap.size WN _));obtain ⟨w4,hWX,HBY⟩:=(⟨_,rfl,HBZ⟩:∃ X,X=_/\Below WN.heap.size WN X);rw [<- hWX];clear hWX HBZ
          try clear r0 r1 r2 r3 rL s0 s1 s2 s3 s4 sL
          replace HKN:=kb_ HKN HBY;replace HKP:=kb_ HKP HBY;replace HW:=eb_ HW HBY;clear HBY;obtain ⟨r0,r1,r2,r3,rL⟩:=yG HKN.out;obtain ⟨s0,s1,s2,s3,s4,sL⟩:=zj9 HKP.out
          by_cases hlt:qh<ql
          . have HF:=ze (HE8.out.trans (if_pos (.inr hlt)))
            have hd2:=znj.2 hlt;rw [HSO.out] at hd2;clear hlt HE8;go_wp2_with fail;go_ret;exact ⟨zr HF.out,HW.out⟩
          have HF:=ze (HE8.out.trans (if_neg (by rintro (h | h);exact hs h;exact hlt h)))
          have hd3:¬ 0<(ql - qh).num.sign:=fun h=>hlt (znj.1 h)
          rw [HSO.out] at hd3;have hd2:so<=0:=by omega
          clear hd3;clear hlt HE8;go_wp2_with fail;go_ret;exact ⟨zr HF.out,HW.out⟩
        all_goals
         have HF:=ze (HE8.out.trans (if_pos (.inl hs)));have HSG:=ze hz;clear hz hs HE8 HNL HNH hmh;go_wp2_with fail
         (first | (go_region_with (first
           | (go_at_call 39;refine (hml _).mono ?_;rintro e w1 ⟨v1,rfl,hv1,hb1⟩;have HM1:=ze hv1;clear hv1)
           | (go_at_call 38;refine (YZ _ ql _ HM1.out).mono ?_;rw [HSG.out];rintro e w2 ⟨rfl,hb2⟩))) | fail "region")
         all_goals
          clear r0 r1 r2 r3 s0 s1 s2 s3 s4;have HWA:=ze (ext (ext (zo HW.out 1) hb1) hb2);go_wp2_with fail;go_ret;exact ⟨zr HF.out,HWA.out⟩
end Go.Proofs.YtacfcmdlgebhgaaGreat
