/- Parts of the proof: memory, numbers, walks of the functions that are called. -/
import Derived.Test.YtnpbflhjglkokaaGreatDoorMg19
import Derived.Test.YtnpbflhjglkokaaGreatDoorMg21
set_option linter.unusedVariables false
set_option linter.unusedSimpArgs false
namespace Go.Proofs.YtnpbflhjglkokaaGreatDoor
open Go.RowKit Go.Deep
attribute [local go_sem ↓] Go.wp_at_zero Go.wp_at_succ
def PadR (w0:World) (k:Nat) (l:List UInt8) (sv:Value) (wr:World):Prop:=
 ∃ (j:Nat) (t:ByteArray),sv= .string t/\Hid (bts t=zs j ++ l)/\Hid (j=0\/j+l.length<=k+1)/\w0=wr
theorem zkd {k j:Nat} {l:List UInt8} (h:j=0\/j+l.length<=k+1) (hk:k<(zs j ++ l).length):zs j ++ l=zew k l:=by
 rw [List.length_append] at hk
 unfold zs at hk
 rw [List.length_replicate] at hk
 unfold zew
 rcases h with rfl | h
 . rw [if_neg (by omega)];rfl
 . by_cases hl:l.length<=k
   . rw [if_pos hl]
     have:j=k+1 - l.length:=by omega
     rw [this]
   . rw [if_neg hl]
     have:j=0:=by omega
     rw [this];rfl
theorem Yl (k:Nat):¬ (((10 ^ k:Nat):Int):Rat).num<0:=by
 show ¬ ((10 ^ k:Nat):Int)<0
 exact Int.not_lt.2 (Int.natCast_nonneg _)
def RdR (w0:World) (q:Rat) (sv:Value) (wc:World):Prop:=∃ (gc:Nat) (g6:Bool) (A6:Option Addr) (n6 c6:Nat) (B6:Option Addr) (m6 d6:Nat),sv= .pointer (some ⟨gc,0,none⟩)/\
 Hid (Blk wc gc 78 #[.bool g6,.slice A6 n6 c6,.slice B6 m6 d6])/\Hid (vr wc (.agg #[.bool g6,.slice A6 n6 c6,.slice B6 m6 d6]) q)/\Hid (Below w0.heap.size w0 wc)
theorem RdR.mk {w0 W:World} {q:Rat} {g6:Bool} {A6 B6:Option Addr} {n6 c6 m6 d6:Nat} (gc:Nat) (hk:Blk W gc 78 #[.bool false,.slice none 0 0,.slice none 0 0]) (hl:vr W (.agg #[.bool g6,.slice A6 n6 c6,.slice B6 m6 d6]) q) (hb:Below w0.heap.size w0 W) (hg:w0.heap.size<=gc):
 RdR w0 q (.pointer (some ⟨gc,0,none⟩)) (World.ref W gc g6 A6 n6 c6 B6 m6 d6):=
 ⟨gc,g6,A6,n6,c6,B6,m6,d6,rfl,yS hk,hl.stored hk,yq hb hg⟩
set_option maxRecDepth 100000 in
set_option maxHeartbeats 8000000 in
theorem XU (a:ByteArray) (q:Rat) (k:Nat) (w:World) (ha:a.size<=1073741824) (hq:zq (bts a)=some q) (hk:k<=50):
 Calls Tryz.prog 31 #[.string a,.int .i64 k] w (zlq w (zlh (VQ q k) k,0)):=by
 have hrb:=fun w=>VT a w ha
 have HY:=ze hq
 have HK50:=ze hk
 have HLX:=ze ((zht hq).mono (show 50000<=8388608 by omega))
 have HLP:=ze (show zbh 8388608 (((10 ^ k:Nat):Int):Rat) from (zev hk).nlen.mono (by omega))
 have hsz:=Dz.mul (zjr hq) (zev hk) (Nat.le_refl _)
 have HNL:=ze (show zbh 33554432 (q*(((10 ^ k:Nat):Int):Rat)) from hsz.nlen.mono (by omega))
 have HF:=ze (zld hsz)
 obtain ⟨n,hn⟩:∃ n,n=VQ q k:=⟨_,rfl⟩
 rw [<- hn]
 have HN:=ze hn
 clear hq hsz hn
 go_enter Tryz.func31,Tryz.ntmps31
 go_wp2_with fail
 refine (hrb _).mono ?_
 rintro e w1 ⟨v1,bb,rfl,⟨g1,A1,n1,c1,B1,m1,d1,rfl⟩,hbb,hq1,hW⟩
 rw [HY.out] at hbb
 obtain rfl:bb=true:=hbb
 have hb1:=zf w1 (.cells #[.bool g1,.slice A1 n1 c1,.slice B1 m1 d1] 78)
 have HX:=ze ((hq1 q HY.out).below hb1)
 have HBX:=ze (Blk.new w1 78 #[.bool g1,.slice A1 n1 c1,.slice B1 m1 d1])
 have HW:=ze (ext hW hb1)
 clear hq1 hW hb1 hrb
 go_upto_region 6 with fail
 generalize w1.alloc (.cells #[.bool g1,.slice A1 n1 c1,.slice B1 m1 d1] 78)=WB at HX HBX HW |-
 generalize w1.heap.size=gx at HBX |-
 obtain ⟨x0,x1,x2,xL⟩:=bkc3 HBX.out
 go_cut [8] from 11 (fun sv wc=>RdR w (flr (q*(((10 ^ k:Nat):Int):Rat))) sv wc)
 case first=>
  refine Zv (S:=fun w' =>Hid (Below WB.heap.size WB w')/\w'.cell? ⟨gx,0,none⟩=some (.bool g1)/\w'.cell? ⟨gx,1,none⟩=some (.slice A1 n1 c1)/\w'.cell? ⟨gx,2,none⟩=some (.slice B1 m1 d1)) 8 (by kernel_rfl) (by kernel_rfl) (zj (zB WB) (fun hB=>⟨zh hB xL x0,zh hB xL x1,zh hB xL x2⟩)) (fun hHeld=>?_)
  refine HH.take 0 (oi:=_) (v:=?_) rfl (by kernel_rfl) (by kernel_rfl) (by kernel_rfl) (fun _ _ _ h=>h) (Or.inl ⟨by rfl,?_⟩) ‹_› ?_
  rotate_left
  . (intro w9 hSw;(try dsimp only at hSw);go_split_ands;go_simp;try with_reducible rfl)
  try simp only [Act.put,List.getElem_toArray,List.getElem_cons_succ,List.getElem_cons_zero,List.setIfInBounds_toArray,List.set_cons_zero,List.set_cons_succ]
  refine HH.take 1 (oi:=_) (v:=?_) rfl (by kernel_rfl) (by kernel_rfl) (by kernel_rfl) (fun _ _ _ h=>h) (Or.inl ⟨by rfl,?_⟩) ‹_› ?_
  rotate_left
  . (intro w9 hSw;(try dsimp only at hSw);go_split_ands;go_simp;try with_reducible rfl)
  try simp only [Act.put,List.getElem_toArray,List.getElem_cons_succ,List.getElem_cons_zero,List.setIfInBounds_toArray,List.set_cons_zero,List.set_cons_succ]
  refine HH.ready (rs:=[2,3,7]) (by kernel_rfl) (by simp) (by kernel_rfl) ?_
  refine zr.cons (o:=_) rfl (fun K hK=>?_) (zr.cons (o:=_) rfl (fun K hK=>?_) (zr.cons (o:=_) rfl (fun K hK=>?_) zr.nil))
  . skip
    go_simp
    go_at_call 91;have hbd:=(zB WB).out;replace HX:=ze (HX.out.below hbd);clear hbd;refine (Yu k _ (Nat.le_trans HK50.out (by omega))).mono ?_;rintro e w21 ⟨vp,rfl,hv,hb⟩;replace HX:=ze (HX.out.below hb);obtain ⟨Ap,cp,rfl⟩:=hv.form;have HP:=ze hv;have hH0:=hHeld;clear hHeld;refine hK.out _ _ (zj (zl hb hH0.1) (fun hB=>⟨zh hB xL x0,zh hB xL x1,zh hB xL x2⟩)) (fun hHeld=>?_);clear hH0 hK K
    try simp only [Act.put,List.setIfInBounds_toArray,List.set_cons_zero,List.set_cons_succ]
    clear hb hv;refine HH.ready (rs:=[3,7]) (by kernel_rfl) (by simp) (by kernel_rfl) ?_;refine zr.cons (o:=_) rfl (fun K hK=>?_) (zr.cons (o:=_) rfl (fun K hK=>?_) zr.nil)
    . skip
      go_simp
      have hb:=zf w21 (.cells #[.int .i64 1] 3);replace HX:=ze (HX.out.below hb);replace HP:=ze (zw.below HP.out hb);clear hb;have HO:Hid (zw (w21.alloc (.cells #[.int .i64 1] 3)) (.slice (some ⟨w21.heap.size,0,none⟩) 1 1) 1):=ze (vP w21 (d:=1) (by omega) (by omega));have hH0:=hHeld;clear hHeld;refine hK.out _ _ (zj (zl (zf _ _) hH0.1) (fun hB=>⟨zh hB xL x0,zh hB xL x1,zh hB xL x2⟩)) (fun hHeld=>?_);clear hH0 hK K
      try simp only [Act.put,List.setIfInBounds_toArray,List.set_cons_zero,List.set_cons_succ]
      generalize (w21.alloc (.cells #[.int .i64 1] 3))=w22 at HX HP HO hHeld |-;generalize w21.heap.size=g22 at HO |-;refine HH.take 4 (oi:=_) (v:=?_) rfl (by kernel_rfl) (by kernel_rfl) (by kernel_rfl) (fun _ _ _ h=>h) (Or.inl ⟨by rfl,?_⟩) ‹_› ?_;rotate_left
      . (intro w9 hSw;(try dsimp only at hSw);go_split_ands;go_simp;try with_reducible rfl)
      try simp only [Act.put,List.getElem_toArray,List.getElem_cons_succ,List.getElem_cons_zero,List.setIfInBounds_toArray,List.set_cons_zero,List.set_cons_succ]
      refine HH.ready (rs:=[5,7]) (by kernel_rfl) (by simp) (by kernel_rfl) ?_;refine zr.cons (o:=_) rfl (fun K hK=>?_) (zr.cons (o:=_) rfl (fun K hK=>?_) zr.nil)
      . skip
        go_simp
        go_at_call 90;have hbld:vr _ (.agg #[.bool false,.slice Ap (len 1000000000 (10 ^ k)) cp,.slice (some ⟨g22,0,none⟩) 1 1]) (((10 ^ k:Nat):Int):Rat):=⟨_,_,_,_,_,_,_,rfl,(decide_eq_false (Yl k)).symm,HP.out,HO.out⟩;refine (yU _ _ q (((10 ^ k:Nat):Int):Rat) _ HX.out hbld HLX.out HLP.out).mono ?_;rintro e w23 ⟨v5,rfl,hv,hb⟩;clear hbld HX HP HO;have HV:=ze hv;have hH0:=hHeld;clear hHeld;refine hK.out _ _ (zj (zl hb hH0.1) (fun hB=>⟨zh hB xL x0,zh hB xL x1,zh hB xL x2⟩)) (fun hHeld=>?_);clear hH0 hK K
        try simp only [Act.put,List.setIfInBounds_toArray,List.set_cons_zero,List.set_cons_succ]
        clear hb hv;refine HH.ready (rs:=[6,7]) (by kernel_rfl) (by simp) (by kernel_rfl) ?_;refine zr.cons (o:=_) rfl (fun K hK=>?_) (zr.cons (o:=_) rfl (fun K hK=>?_) zr.nil)
        . skip
          go_simp
          go_at_call 89;refine (xK _ _ _ HV.out HNL.out).mono ?_;rintro e w24 ⟨v6,rfl,hv,hb⟩;clear HV;have HL:=ze hv;obtain ⟨g6,A6,n6,c6,B6,m6,d6,rfl⟩:zg3 v6:=(by obtain ⟨g6,A6,n6,c6,B6,m6,d6,h6,hh⟩:=hv;exact ⟨_,_,_,_,_,_,_,h6⟩);have hH0:=hHeld;clear hHeld;refine hK.out _ _ (zj (zl hb hH0.1) (fun hB=>⟨zh hB xL x0,zh hB xL x1,zh hB xL x2⟩)) (fun hHeld=>?_);clear hH0 hK K
          try simp only [Act.put,List.setIfInBounds_toArray,List.set_cons_zero,List.set_cons_succ]
          clear hb hv;refine HH.ready (rs:=[7]) (by kernel_rfl) (by simp) (by kernel_rfl) ?_;refine zr.cons (o:=_) rfl (fun K hK=>?_) zr.nil
          go_simp
          have hb:=zf w24 (.cells #[.bool false,.slice none 0 0,.slice none 0 0] 78);have HGE:Hid (WB.heap.size<=w24.heap.size):=(hHeld.1).out.size;replace HL:=ze (HL.out.below hb);clear hb;have HA:Hid (Blk (w24.alloc (.cells #[.bool false,.slice none 0 0,.slice none 0 0] 78)) w24.heap.size 78 #[.bool false,.slice none 0 0,.slice none 0 0]):=Blk.new _ _ _;have hH0:=hHeld;clear hHeld;refine hK.out _ _ (zj (zl (zf _ _) hH0.1) (fun hB=>⟨zh hB xL x0,zh hB xL x1,zh hB xL x2⟩)) (fun hHeld=>?_);clear hH0 hK K
          try simp only [Act.put,List.setIfInBounds_toArray,List.set_cons_zero,List.set_cons_succ]
          generalize (w24.alloc (.cells #[.bool false,.slice none 0 0,.slice none 0 0] 78))=w25 at HL HA hHeld |-;generalize w24.heap.size=g25 at HA HGE |-;have a0:=HA.out.cell 0;have a1:=HA.out.cell 1;have a2:=HA.out.cell 2;have f0:=HA.out.frozen 0;have f1:=HA.out.frozen 1;have f2:=HA.out.frozen 2;simp at a0 a1 a2;have hHB:=hHeld.1;have HBY:=(hHeld.1).out;clear HBY hHeld;refine HH.done (by kernel_rfl) ?_;simp only [List.drop_succ_cons,List.drop_zero];go_wp2_with fail;go_meet
          case rel=>exact RdR.mk g25 HA.out HL.out (ext HW.out hHB.out) (by have:=HW.out.size;have:=HGE.out;omega)
        . skip
          go_simp
          have hb:=zf w23 (.cells #[.bool false,.slice none 0 0,.slice none 0 0] 78);have HGE:Hid (WB.heap.size<=w23.heap.size):=(hHeld.1).out.size;replace HV:=ze (HV.out.below hb);clear hb;have HA:Hid (Blk (w23.alloc (.cells #[.bool false,.slice none 0 0,.slice none 0 0] 78)) w23.heap.size 78 #[.bool false,.slice none 0 0,.slice none 0 0]):=Blk.new _ _ _;have hH0:=hHeld;clear hHeld;refine hK.out _ _ (zj (zl (zf _ _) hH0.1) (fun hB=>⟨zh hB xL x0,zh hB xL x1,zh hB xL x2⟩)) (fun hHeld=>?_);clear hH0 hK K
          try simp only [Act.put,List.setIfInBounds_toArray,List.set_cons_zero,List.set_cons_succ]
          generalize (w23.alloc (.cells #[.bool false,.slice none 0 0,.slice none 0 0] 78))=w26 at HV HA hHeld |-;generalize w23.heap.size=g26 at HA HGE |-;refine HH.ready (rs:=[6]) (by kernel_rfl) (by simp) (by kernel_rfl) ?_;refine zr.cons (o:=_) rfl (fun K hK=>?_) zr.nil
          go_simp
          go_at_call 89;refine (xK _ _ _ HV.out HNL.out).mono ?_;rintro e w27 ⟨v6,rfl,hv,hb⟩;clear HV;replace HA:=kb_ HA hb;have HL:=ze hv;obtain ⟨g6,A6,n6,c6,B6,m6,d6,rfl⟩:zg3 v6:=(by obtain ⟨g6,A6,n6,c6,B6,m6,d6,h6,hh⟩:=hv;exact ⟨_,_,_,_,_,_,_,h6⟩);have hH0:=hHeld;clear hHeld;refine hK.out _ _ (zj (zl hb hH0.1) (fun hB=>⟨zh hB xL x0,zh hB xL x1,zh hB xL x2⟩)) (fun hHeld=>?_);clear hH0 hK K
          try simp only [Act.put,List.setIfInBounds_toArray,List.set_cons_zero,List.set_cons_succ]
          clear hb hv;have a0:=HA.out.cell 0;have a1:=HA.out.cell 1;have a2:=HA.out.cell 2;have f0:=HA.out.frozen 0;have f1:=HA.out.frozen 1;have f2:=HA.out.frozen 2;simp at a0 a1 a2;have hHB:=hHeld.1;have HBY:=(hHeld.1).out;clear HBY hHeld;refine HH.done (by kernel_rfl) ?_;simp only [List.drop_succ_cons,List.drop_zero];go_wp2_with fail;go_meet
          case rel=>exact RdR.mk g26 HA.out HL.out (ext HW.out hHB.out) (by have:=HW.out.size;have:=HGE.out;omega)
      . skip
        go_simp
        have hb:=zf w22 (.cells #[.bool false,.slice none 0 0,.slice none 0 0] 78);have HGE:Hid (WB.heap.size<=w22.heap.size):=(hHeld.1).out.size;replace HX:=ze (HX.out.below hb);replace HP:=ze (zw.below HP.out hb);replace HO:=ze (zw.below HO.out hb);clear hb;have HA:Hid (Blk (w22.alloc (.cells #[.bool false,.slice none 0 0,.slice none 0 0] 78)) w22.heap.size 78 #[.bool false,.slice none 0 0,.slice none 0 0]):=Blk.new _ _ _;have hH0:=hHeld;clear hHeld;refine hK.out _ _ (zj (zl (zf _ _) hH0.1) (fun hB=>⟨zh hB xL x0,zh hB xL x1,zh hB xL x2⟩)) (fun hHeld=>?_);clear hH0 hK K
        try simp only [Act.put,List.setIfInBounds_toArray,List.set_cons_zero,List.set_cons_succ]
        generalize (w22.alloc (.cells #[.bool false,.slice none 0 0,.slice none 0 0] 78))=w28 at HX HP HO HA hHeld |-;generalize w22.heap.size=g28 at HA HGE |-;refine HH.ready (rs:=[5]) (by kernel_rfl) (by simp) (by kernel_rfl) ?_;refine zr.cons (o:=_) rfl (fun K hK=>?_) zr.nil
        go_simp
        go_at_call 90;have hbld:vr _ (.agg #[.bool false,.slice Ap (len 1000000000 (10 ^ k)) cp,.slice (some ⟨g22,0,none⟩) 1 1]) (((10 ^ k:Nat):Int):Rat):=⟨_,_,_,_,_,_,_,rfl,(decide_eq_false (Yl k)).symm,HP.out,HO.out⟩;refine (yU _ _ q (((10 ^ k:Nat):Int):Rat) _ HX.out hbld HLX.out HLP.out).mono ?_;rintro e w29 ⟨v5,rfl,hv,hb⟩;clear hbld HX HP HO;replace HA:=kb_ HA hb;have HV:=ze hv;have hH0:=hHeld;clear hHeld;refine hK.out _ _ (zj (zl hb hH0.1) (fun hB=>⟨zh hB xL x0,zh hB xL x1,zh hB xL x2⟩)) (fun hHeld=>?_);clear hH0 hK K
        try simp only [Act.put,List.setIfInBounds_toArray,List.set_cons_zero,List.set_cons_succ]
        clear hb hv;refine HH.ready (rs:=[6]) (by kernel_rfl) (by simp) (by kernel_rfl) ?_;refine zr.cons (o:=_) rfl (fun K hK=>?_) zr.nil
        go_simp
        go_at_call 89;refine (xK _ _ _ HV.out HNL.out).mono ?_;rintro e w30 ⟨v6,rfl,hv,hb⟩;clear HV;replace HA:=kb_ HA hb;have HL:=ze hv;obtain ⟨g6,A6,n6,c6,B6,m6,d6,rfl⟩:zg3 v6:=(by obtain ⟨g6,A6,n6,c6,B6,m6,d6,h6,hh⟩:=hv;exact ⟨_,_,_,_,_,_,_,h6⟩);have hH0:=hHeld;clear hHeld;refine hK.out _ _ (zj (zl hb hH0.1) (fun hB=>⟨zh hB xL x0,zh hB xL x1,zh hB xL x2⟩)) (fun hHeld=>?_);clear hH0 hK K
        try simp only [Act.put,List.setIfInBounds_toArray,List.set_cons_zero,List.set_cons_succ]
        clear hb hv;have a0:=HA.out.cell 0;have a1:=HA.out.cell 1;have a2:=HA.out.cell 2;have f0:=HA.out.frozen 0;have f1:=HA.out.frozen 1;have f2:=HA.out.frozen 2;simp at a0 a1 a2;have hHB:=hHeld.1;have HBY:=(hHeld.1).out;clear HBY hHeld;refine HH.done (by kernel_rfl) ?_;simp only [List.drop_succ_cons,List.drop_zero];go_wp2_with fail;go_meet
        case rel=>exact RdR.mk g28 HA.out HL.out (ext HW.out hHB.out) (by have:=HW.out.size;have:=HGE.out;omega)
    . skip
      go_simp
      have hb:=zf w21 (.cells #[.bool false,.slice none 0 0,.slice none 0 0] 78);have HGE:Hid (WB.heap.size<=w21.heap.size):=(hHeld.1).out.size;replace HX:=ze (HX.out.below hb);replace HP:=ze (zw.below HP.out hb);clear hb;have HA:Hid (Blk (w21.alloc (.cells #[.bool false,.slice none 0 0,.slice none 0 0] 78)) w21.heap.size 78 #[.bool false,.slice none 0 0,.slice none 0 0]):=Blk.new _ _ _;have hH0:=hHeld;clear hHeld;refine hK.out _ _ (zj (zl (zf _ _) hH0.1) (fun hB=>⟨zh hB xL x0,zh hB xL x1,zh hB xL x2⟩)) (fun hHeld=>?_);clear hH0 hK K
      try simp only [Act.put,List.setIfInBounds_toArray,List.set_cons_zero,List.set_cons_succ]
      generalize (w21.alloc (.cells #[.bool false,.slice none 0 0,.slice none 0 0] 78))=w31 at HX HP HA hHeld |-;generalize w21.heap.size=g31 at HA HGE |-;refine HH.ready (rs:=[3]) (by kernel_rfl) (by simp) (by kernel_rfl) ?_;refine zr.cons (o:=_) rfl (fun K hK=>?_) zr.nil
      go_simp
      have hb:=zf w31 (.cells #[.int .i64 1] 3);replace HX:=ze (HX.out.below hb);replace HP:=ze (zw.below HP.out hb);replace HA:=kb_ HA hb;clear hb;have HO:Hid (zw (w31.alloc (.cells #[.int .i64 1] 3)) (.slice (some ⟨w31.heap.size,0,none⟩) 1 1) 1):=ze (vP w31 (d:=1) (by omega) (by omega));have hH0:=hHeld;clear hHeld;refine hK.out _ _ (zj (zl (zf _ _) hH0.1) (fun hB=>⟨zh hB xL x0,zh hB xL x1,zh hB xL x2⟩)) (fun hHeld=>?_);clear hH0 hK K
      try simp only [Act.put,List.setIfInBounds_toArray,List.set_cons_zero,List.set_cons_succ]
      generalize (w31.alloc (.cells #[.int .i64 1] 3))=w32 at HX HP HA HO hHeld |-;generalize w31.heap.size=g32 at HO |-;refine HH.take 4 (oi:=_) (v:=?_) rfl (by kernel_rfl) (by kernel_rfl) (by kernel_rfl) (fun _ _ _ h=>h) (Or.inl ⟨by rfl,?_⟩) ‹_› ?_;rotate_left
      . (intro w9 hSw;(try dsimp only at hSw);go_split_ands;go_simp;try with_reducible rfl)
      try simp only [Act.put,List.getElem_toArray,List.getElem_cons_succ,List.getElem_cons_zero,List.setIfInBounds_toArray,List.set_cons_zero,List.set_cons_succ]
      refine HH.ready (rs:=[5]) (by kernel_rfl) (by simp) (by kernel_rfl) ?_;refine zr.cons (o:=_) rfl (fun K hK=>?_) zr.nil
      go_simp
      go_at_call 90;have hbld:vr _ (.agg #[.bool false,.slice Ap (len 1000000000 (10 ^ k)) cp,.slice (some ⟨g32,0,none⟩) 1 1]) (((10 ^ k:Nat):Int):Rat):=⟨_,_,_,_,_,_,_,rfl,(decide_eq_false (Yl k)).symm,HP.out,HO.out⟩;refine (yU _ _ q (((10 ^ k:Nat):Int):Rat) _ HX.out hbld HLX.out HLP.out).mono ?_;rintro e w33 ⟨v5,rfl,hv,hb⟩;clear hbld HX HP HO;replace HA:=kb_ HA hb;have HV:=ze hv;have hH0:=hHeld;clear hHeld;refine hK.out _ _ (zj (zl hb hH0.1) (fun hB=>⟨zh hB xL x0,zh hB xL x1,zh hB xL x2⟩)) (fun hHeld=>?_);clear hH0 hK K
      try simp only [Act.put,List.setIfInBounds_toArray,List.set_cons_zero,List.set_cons_succ]
      clear hb hv;refine HH.ready (rs:=[6]) (by kernel_rfl) (by simp) (by kernel_rfl) ?_;refine zr.cons (o:=_) rfl (fun K hK=>?_) zr.nil
      go_simp
      go_at_call 89;refine (xK _ _ _ HV.out HNL.out).mono ?_;rintro e w34 ⟨v6,rfl,hv,hb⟩;clear HV;replace HA:=kb_ HA hb;have HL:=ze hv;obtain ⟨g6,A6,n6,c6,B6,m6,d6,rfl⟩:zg3 v6:=(by obtain ⟨g6,A6,n6,c6,B6,m6,d6,h6,hh⟩:=hv;exact ⟨_,_,_,_,_,_,_,h6⟩);have hH0:=hHeld;clear hHeld;refine hK.out _ _ (zj (zl hb hH0.1) (fun hB=>⟨zh hB xL x0,zh hB xL x1,zh hB xL x2⟩)) (fun hHeld=>?_);clear hH0 hK K
      try simp only [Act.put,List.setIfInBounds_toArray,List.set_cons_zero,List.set_cons_succ]
      clear hb hv;have a0:=HA.out.cell 0;have a1:=HA.out.cell 1;have a2:=HA.out.cell 2;have f0:=HA.out.frozen 0;have f1:=HA.out.frozen 1;have f2:=HA.out.frozen 2;simp at a0 a1 a2;have hHB:=hHeld.1;have HBY:=(hHeld.1).out;clear HBY hHeld;refine HH.done (by kernel_rfl) ?_;simp only [List.drop_succ_cons,List.drop_zero];go_wp2_with fail;go_meet
      case rel=>exact RdR.mk g31 HA.out HL.out (ext HW.out hHB.out) (by have:=HW.out.size;have:=HGE.out;omega)
  . skip
    go_simp
    have hb:=(ys WB (.cells #[.int .i64 1] 3)).out;replace HX:=ze (HX.out.below hb);clear hb;have HO:Hid (zw (WB.alloc (.cells #[.int .i64 1] 3)).drew (.slice (some ⟨WB.heap.size,0,none⟩) 1 1) 1):=ze (zw.below (vP WB (d:=1) (by omega) (by omega)) (zB _).out);have hH0:=hHeld;clear hHeld;refine hK.out _ _ (zj (ys WB _) (fun hB=>⟨zh hB xL x0,zh hB xL x1,zh hB xL x2⟩)) (fun hHeld=>?_);clear hH0 hK K
    try simp only [Act.put,List.setIfInBounds_toArray,List.set_cons_zero,List.set_cons_succ]
    generalize (WB.alloc (.cells #[.int .i64 1] 3)).drew=w35 at HX HO hHeld |-;refine HH.ready (rs:=[2,7]) (by kernel_rfl) (by simp) (by kernel_rfl) ?_;refine zr.cons (o:=_) rfl (fun K hK=>?_) (zr.cons (o:=_) rfl (fun K hK=>?_) zr.nil)
    . skip
      go_simp
      go_at_call 91;refine (Yu k _ (Nat.le_trans HK50.out (by omega))).mono ?_;rintro e w36 ⟨vp,rfl,hv,hb⟩;replace HX:=ze (HX.out.below hb);replace HO:=ze (zw.below HO.out hb);obtain ⟨Ap,cp,rfl⟩:=hv.form;have HP:=ze hv;have hH0:=hHeld;clear hHeld;refine hK.out _ _ (zj (zl hb hH0.1) (fun hB=>⟨zh hB xL x0,zh hB xL x1,zh hB xL x2⟩)) (fun hHeld=>?_);clear hH0 hK K
      try simp only [Act.put,List.setIfInBounds_toArray,List.set_cons_zero,List.set_cons_succ]
      clear hb hv;refine HH.take 4 (oi:=_) (v:=?_) rfl (by kernel_rfl) (by kernel_rfl) (by kernel_rfl) (fun _ _ _ h=>h) (Or.inl ⟨by rfl,?_⟩) ‹_› ?_;rotate_left
      . (intro w9 hSw;(try dsimp only at hSw);go_split_ands;go_simp;try with_reducible rfl)
      try simp only [Act.put,List.getElem_toArray,List.getElem_cons_succ,List.getElem_cons_zero,List.setIfInBounds_toArray,List.set_cons_zero,List.set_cons_succ]
      refine HH.ready (rs:=[5,7]) (by kernel_rfl) (by simp) (by kernel_rfl) ?_;refine zr.cons (o:=_) rfl (fun K hK=>?_) (zr.cons (o:=_) rfl (fun K hK=>?_) zr.nil)
      . skip
        go_simp
        go_at_call 90;have hbld:vr _ (.agg #[.bool false,.slice Ap (len 1000000000 (10 ^ k)) cp,.slice (some ⟨WB.heap.size,0,none⟩) 1 1]) (((10 ^ k:Nat):Int):Rat):=⟨_,_,_,_,_,_,_,rfl,(decide_eq_false (Yl k)).symm,HP.out,HO.out⟩;refine (yU _ _ q (((10 ^ k:Nat):Int):Rat) _ HX.out hbld HLX.out HLP.out).mono ?_;rintro e w37 ⟨v5,rfl,hv,hb⟩;clear hbld HX HP HO;have HV:=ze hv;have hH0:=hHeld;clear hHeld;refine hK.out _ _ (zj (zl hb hH0.1) (fun hB=>⟨zh hB xL x0,zh hB xL x1,zh hB xL x2⟩)) (fun hHeld=>?_);clear hH0 hK K
        try simp only [Act.put,List.setIfInBounds_toArray,List.set_cons_zero,List.set_cons_succ]
        clear hb hv;refine HH.ready (rs:=[6,7]) (by kernel_rfl) (by simp) (by kernel_rfl) ?_;refine zr.cons (o:=_) rfl (fun K hK=>?_) (zr.cons (o:=_) rfl (fun K hK=>?_) zr.nil)
        . skip
          go_simp
          go_at_call 89;refine (xK _ _ _ HV.out HNL.out).mono ?_;rintro e w38 ⟨v6,rfl,hv,hb⟩;clear HV;have HL:=ze hv;obtain ⟨g6,A6,n6,c6,B6,m6,d6,rfl⟩:zg3 v6:=(by obtain ⟨g6,A6,n6,c6,B6,m6,d6,h6,hh⟩:=hv;exact ⟨_,_,_,_,_,_,_,h6⟩);have hH0:=hHeld;clear hHeld;refine hK.out _ _ (zj (zl hb hH0.1) (fun hB=>⟨zh hB xL x0,zh hB xL x1,zh hB xL x2⟩)) (fun hHeld=>?_);clear hH0 hK K
          try simp only [Act.put,List.setIfInBounds_toArray,List.set_cons_zero,List.set_cons_succ]
          clear hb hv;refine HH.ready (rs:=[7]) (by kernel_rfl) (by simp) (by kernel_rfl) ?_;refine zr.cons (o:=_) rfl (fun K hK=>?_) zr.nil
          go_simp
          have hb:=zf w38 (.cells #[.bool false,.slice none 0 0,.slice none 0 0] 78);have HGE:Hid (WB.heap.size<=w38.heap.size):=(hHeld.1).out.size;replace HL:=ze (HL.out.below hb);clear hb;have HA:Hid (Blk (w38.alloc (.cells #[.bool false,.slice none 0 0,.slice none 0 0] 78)) w38.heap.size 78 #[.bool false,.slice none 0 0,.slice none 0 0]):=Blk.new _ _ _;have hH0:=hHeld;clear hHeld;refine hK.out _ _ (zj (zl (zf _ _) hH0.1) (fun hB=>⟨zh hB xL x0,zh hB xL x1,zh hB xL x2⟩)) (fun hHeld=>?_);clear hH0 hK K
          try simp only [Act.put,List.setIfInBounds_toArray,List.set_cons_zero,List.set_cons_succ]
          generalize (w38.alloc (.cells #[.bool false,.slice none 0 0,.slice none 0 0] 78))=w39 at HL HA hHeld |-;generalize w38.heap.size=g39 at HA HGE |-;have a0:=HA.out.cell 0;have a1:=HA.out.cell 1;have a2:=HA.out.cell 2;have f0:=HA.out.frozen 0;have f1:=HA.out.frozen 1;have f2:=HA.out.frozen 2;simp at a0 a1 a2;have hHB:=hHeld.1;have HBY:=(hHeld.1).out;clear HBY hHeld;refine HH.done (by kernel_rfl) ?_;simp only [List.drop_succ_cons,List.drop_zero];go_wp2_with fail;go_meet
          case rel=>exact RdR.mk g39 HA.out HL.out (ext HW.out hHB.out) (by have:=HW.out.size;have:=HGE.out;omega)
        . skip
          go_simp
          have hb:=zf w37 (.cells #[.bool false,.slice none 0 0,.slice none 0 0] 78);have HGE:Hid (WB.heap.size<=w37.heap.size):=(hHeld.1).out.size;replace HV:=ze (HV.out.below hb);clear hb;have HA:Hid (Blk (w37.alloc (.cells #[.bool false,.slice none 0 0,.slice none 0 0] 78)) w37.heap.size 78 #[.bool false,.slice none 0 0,.slice none 0 0]):=Blk.new _ _ _;have hH0:=hHeld;clear hHeld;refine hK.out _ _ (zj (zl (zf _ _) hH0.1) (fun hB=>⟨zh hB xL x0,zh hB xL x1,zh hB xL x2⟩)) (fun hHeld=>?_);clear hH0 hK K
          try simp only [Act.put,List.setIfInBounds_toArray,List.set_cons_zero,List.set_cons_succ]
          generalize (w37.alloc (.cells #[.bool false,.slice none 0 0,.slice none 0 0] 78))=w40 at HV HA hHeld |-;generalize w37.heap.size=g40 at HA HGE |-;refine HH.ready (rs:=[6]) (by kernel_rfl) (by simp) (by kernel_rfl) ?_;refine zr.cons (o:=_) rfl (fun K hK=>?_) zr.nil
          go_simp
          go_at_call 89;refine (xK _ _ _ HV.out HNL.out).mono ?_;rintro e w41 ⟨v6,rfl,hv,hb⟩;clear HV;replace HA:=kb_ HA hb;have HL:=ze hv;obtain ⟨g6,A6,n6,c6,B6,m6,d6,rfl⟩:zg3 v6:=(by obtain ⟨g6,A6,n6,c6,B6,m6,d6,h6,hh⟩:=hv;exact ⟨_,_,_,_,_,_,_,h6⟩);have hH0:=hHeld;clear hHeld;refine hK.out _ _ (zj (zl hb hH0.1) (fun hB=>⟨zh hB xL x0,zh hB xL x1,zh hB xL x2⟩)) (fun hHeld=>?_);clear hH0 hK K
          try simp only [Act.put,List.setIfInBounds_toArray,List.set_cons_zero,List.set_cons_succ]
          clear hb hv;have a0:=HA.out.cell 0;have a1:=HA.out.cell 1;have a2:=HA.out.cell 2;have f0:=HA.out.frozen 0;have f1:=HA.out.frozen 1;have f2:=HA.out.frozen 2;simp at a0 a1 a2;have hHB:=hHeld.1;have HBY:=(hHeld.1).out;clear HBY hHeld;refine HH.done (by kernel_rfl) ?_;simp only [List.drop_succ_cons,List.drop_zero];go_wp2_with fail;go_meet
          case rel=>exact RdR.mk g40 HA.out HL.out (ext HW.out hHB.out) (by have:=HW.out.size;have:=HGE.out;omega)
      . skip
        go_simp
        have hb:=zf w36 (.cells #[.bool false,.slice none 0 0,.slice none 0 0] 78);have HGE:Hid (WB.heap.size<=w36.heap.size):=(hHeld.1).out.size;replace HX:=ze (HX.out.below hb);replace HO:=ze (zw.below HO.out hb);replace HP:=ze (zw.below HP.out hb);clear hb;have HA:Hid (Blk (w36.alloc (.cells #[.bool false,.slice none 0 0,.slice none 0 0] 78)) w36.heap.size 78 #[.bool false,.slice none 0 0,.slice none 0 0]):=Blk.new _ _ _;have hH0:=hHeld;clear hHeld;refine hK.out _ _ (zj (zl (zf _ _) hH0.1) (fun hB=>⟨zh hB xL x0,zh hB xL x1,zh hB xL x2⟩)) (fun hHeld=>?_);clear hH0 hK K
        try simp only [Act.put,List.setIfInBounds_toArray,List.set_cons_zero,List.set_cons_succ]
        generalize (w36.alloc (.cells #[.bool false,.slice none 0 0,.slice none 0 0] 78))=w42 at HX HO HP HA hHeld |-;generalize w36.heap.size=g42 at HA HGE |-;refine HH.ready (rs:=[5]) (by kernel_rfl) (by simp) (by kernel_rfl) ?_;refine zr.cons (o:=_) rfl (fun K hK=>?_) zr.nil
        go_simp
        go_at_call 90;have hbld:vr _ (.agg #[.bool false,.slice Ap (len 1000000000 (10 ^ k)) cp,.slice (some ⟨WB.heap.size,0,none⟩) 1 1]) (((10 ^ k:Nat):Int):Rat):=⟨_,_,_,_,_,_,_,rfl,(decide_eq_false (Yl k)).symm,HP.out,HO.out⟩;refine (yU _ _ q (((10 ^ k:Nat):Int):Rat) _ HX.out hbld HLX.out HLP.out).mono ?_;rintro e w43 ⟨v5,rfl,hv,hb⟩;clear hbld HX HP HO;replace HA:=kb_ HA hb;have HV:=ze hv;have hH0:=hHeld;clear hHeld;refine hK.out _ _ (zj (zl hb hH0.1) (fun hB=>⟨zh hB xL x0,zh hB xL x1,zh hB xL x2⟩)) (fun hHeld=>?_);clear hH0 hK K
        try simp only [Act.put,List.setIfInBounds_toArray,List.set_cons_zero,List.set_cons_succ]
        clear hb hv;refine HH.ready (rs:=[6]) (by kernel_rfl) (by simp) (by kernel_rfl) ?_;refine zr.cons (o:=_) rfl (fun K hK=>?_) zr.nil
        go_simp
        go_at_call 89;refine (xK _ _ _ HV.out HNL.out).mono ?_;rintro e w44 ⟨v6,rfl,hv,hb⟩;clear HV;replace HA:=kb_ HA hb;have HL:=ze hv;obtain ⟨g6,A6,n6,c6,B6,m6,d6,rfl⟩:zg3 v6:=(by obtain ⟨g6,A6,n6,c6,B6,m6,d6,h6,hh⟩:=hv;exact ⟨_,_,_,_,_,_,_,h6⟩);have hH0:=hHeld;clear hHeld;refine hK.out _ _ (zj (zl hb hH0.1) (fun hB=>⟨zh hB xL x0,zh hB xL x1,zh hB xL x2⟩)) (fun hHeld=>?_);clear hH0 hK K
        try simp only [Act.put,List.setIfInBounds_toArray,List.set_cons_zero,List.set_cons_succ]
        clear hb hv;have a0:=HA.out.cell 0;have a1:=HA.out.cell 1;have a2:=HA.out.cell 2;have f0:=HA.out.frozen 0;have f1:=HA.out.frozen 1;have f2:=HA.out.frozen 2;simp at a0 a1 a2;have hHB:=hHeld.1;have HBY:=(hHeld.1).out;clear HBY hHeld;refine HH.done (by kernel_rfl) ?_;simp only [List.drop_succ_cons,List.drop_zero];go_wp2_with fail;go_meet
        case rel=>exact RdR.mk g42 HA.out HL.out (ext HW.out hHB.out) (by have:=HW.out.size;have:=HGE.out;omega)
    . skip
      go_simp
      have hb:=zf w35 (.cells #[.bool false,.slice none 0 0,.slice none 0 0] 78);have HGE:Hid (WB.heap.size<=w35.heap.size):=(hHeld.1).out.size;replace HX:=ze (HX.out.below hb);replace HO:=ze (zw.below HO.out hb);clear hb;have HA:Hid (Blk (w35.alloc (.cells #[.bool false,.slice none 0 0,.slice none 0 0] 78)) w35.heap.size 78 #[.bool false,.slice none 0 0,.slice none 0 0]):=Blk.new _ _ _;have hH0:=hHeld;clear hHeld;refine hK.out _ _ (zj (zl (zf _ _) hH0.1) (fun hB=>⟨zh hB xL x0,zh hB xL x1,zh hB xL x2⟩)) (fun hHeld=>?_);clear hH0 hK K
      try simp only [Act.put,List.setIfInBounds_toArray,List.set_cons_zero,List.set_cons_succ]
      generalize (w35.alloc (.cells #[.bool false,.slice none 0 0,.slice none 0 0] 78))=w45 at HX HO HA hHeld |-;generalize w35.heap.size=g45 at HA HGE |-;refine HH.ready (rs:=[2]) (by kernel_rfl) (by simp) (by kernel_rfl) ?_;refine zr.cons (o:=_) rfl (fun K hK=>?_) zr.nil
      go_simp
      go_at_call 91;refine (Yu k _ (Nat.le_trans HK50.out (by omega))).mono ?_;rintro e w46 ⟨vp,rfl,hv,hb⟩;replace HX:=ze (HX.out.below hb);replace HO:=ze (zw.below HO.out hb);replace HA:=kb_ HA hb;obtain ⟨Ap,cp,rfl⟩:=hv.form;have HP:=ze hv;have hH0:=hHeld;clear hHeld;refine hK.out _ _ (zj (zl hb hH0.1) (fun hB=>⟨zh hB xL x0,zh hB xL x1,zh hB xL x2⟩)) (fun hHeld=>?_);clear hH0 hK K
      try simp only [Act.put,List.setIfInBounds_toArray,List.set_cons_zero,List.set_cons_succ]
      clear hb hv;refine HH.take 4 (oi:=_) (v:=?_) rfl (by kernel_rfl) (by kernel_rfl) (by kernel_rfl) (fun _ _ _ h=>h) (Or.inl ⟨by rfl,?_⟩) ‹_› ?_;rotate_left
      . (intro w9 hSw;(try dsimp only at hSw);go_split_ands;go_simp;try with_reducible rfl)
      try simp only [Act.put,List.getElem_toArray,List.getElem_cons_succ,List.getElem_cons_zero,List.setIfInBounds_toArray,List.set_cons_zero,List.set_cons_succ]
      refine HH.ready (rs:=[5]) (by kernel_rfl) (by simp) (by kernel_rfl) ?_;refine zr.cons (o:=_) rfl (fun K hK=>?_) zr.nil
      go_simp
      go_at_call 90;have hbld:vr _ (.agg #[.bool false,.slice Ap (len 1000000000 (10 ^ k)) cp,.slice (some ⟨WB.heap.size,0,none⟩) 1 1]) (((10 ^ k:Nat):Int):Rat):=⟨_,_,_,_,_,_,_,rfl,(decide_eq_false (Yl k)).symm,HP.out,HO.out⟩;refine (yU _ _ q (((10 ^ k:Nat):Int):Rat) _ HX.out hbld HLX.out HLP.out).mono ?_;rintro e w47 ⟨v5,rfl,hv,hb⟩;clear hbld HX HP HO;replace HA:=kb_ HA hb;have HV:=ze hv;have hH0:=hHeld;clear hHeld;refine hK.out _ _ (zj (zl hb hH0.1) (fun hB=>⟨zh hB xL x0,zh hB xL x1,zh hB xL x2⟩)) (fun hHeld=>?_);clear hH0 hK K
      try simp only [Act.put,List.setIfInBounds_toArray,List.set_cons_zero,List.set_cons_succ]
      clear hb hv;refine HH.ready (rs:=[6]) (by kernel_rfl) (by simp) (by kernel_rfl) ?_;refine zr.cons (o:=_) rfl (fun K hK=>?_) zr.nil
      go_simp
      go_at_call 89;refine (xK _ _ _ HV.out HNL.out).mono ?_;rintro e w48 ⟨v6,rfl,hv,hb⟩;clear HV;replace HA:=kb_ HA hb;have HL:=ze hv;obtain ⟨g6,A6,n6,c6,B6,m6,d6,rfl⟩:zg3 v6:=(by obtain ⟨g6,A6,n6,c6,B6,m6,d6,h6,hh⟩:=hv;exact ⟨_,_,_,_,_,_,_,h6⟩);have hH0:=hHeld;clear hHeld;refine hK.out _ _ (zj (zl hb hH0.1) (fun hB=>⟨zh hB xL x0,zh hB xL x1,zh hB xL x2⟩)) (fun hHeld=>?_);clear hH0 hK K
      try simp only [Act.put,List.setIfInBounds_toArray,List.set_cons_zero,List.set_cons_succ]
      clear hb hv;have a0:=HA.out.cell 0;have a1:=HA.out.cell 1;have a2:=HA.out.cell 2;have f0:=HA.out.frozen 0;have f1:=HA.out.frozen 1;have f2:=HA.out.frozen 2;simp at a0 a1 a2;have hHB:=hHeld.1;have HBY:=(hHeld.1).out;clear HBY hHeld;refine HH.done (by kernel_rfl) ?_;simp only [List.drop_succ_cons,List.drop_zero];go_wp2_with fail;go_meet
      case rel=>exact RdR.mk g45 HA.out HL.out (ext HW.out hHB.out) (by have:=HW.out.size;have:=HGE.out;omega)
  . skip
    go_simp
    have hb:=(ys WB (.cells #[.bool false,.slice none 0 0,.slice none 0 0] 78)).out;replace HX:=ze (HX.out.below hb);clear hb;have HA:Hid (Blk (WB.alloc (.cells #[.bool false,.slice none 0 0,.slice none 0 0] 78)).drew WB.heap.size 78 #[.bool false,.slice none 0 0,.slice none 0 0]):=(Blk.new WB _ _).drew;have HGE:Hid (WB.heap.size<=WB.heap.size):=Nat.le_refl _;have hH0:=hHeld;clear hHeld;refine hK.out _ _ (zj (ys WB _) (fun hB=>⟨zh hB xL x0,zh hB xL x1,zh hB xL x2⟩)) (fun hHeld=>?_);clear hH0 hK K
    try simp only [Act.put,List.setIfInBounds_toArray,List.set_cons_zero,List.set_cons_succ]
    generalize (WB.alloc (.cells #[.bool false,.slice none 0 0,.slice none 0 0] 78)).drew=w49 at HX HA hHeld |-;refine HH.ready (rs:=[2,3]) (by kernel_rfl) (by simp) (by kernel_rfl) ?_;refine zr.cons (o:=_) rfl (fun K hK=>?_) (zr.cons (o:=_) rfl (fun K hK=>?_) zr.nil)
    . skip
      go_simp
      go_at_call 91;refine (Yu k _ (Nat.le_trans HK50.out (by omega))).mono ?_;rintro e w50 ⟨vp,rfl,hv,hb⟩;replace HX:=ze (HX.out.below hb);replace HA:=kb_ HA hb;obtain ⟨Ap,cp,rfl⟩:=hv.form;have HP:=ze hv;have hH0:=hHeld;clear hHeld;refine hK.out _ _ (zj (zl hb hH0.1) (fun hB=>⟨zh hB xL x0,zh hB xL x1,zh hB xL x2⟩)) (fun hHeld=>?_);clear hH0 hK K
      try simp only [Act.put,List.setIfInBounds_toArray,List.set_cons_zero,List.set_cons_succ]
      clear hb hv;refine HH.ready (rs:=[3]) (by kernel_rfl) (by simp) (by kernel_rfl) ?_;refine zr.cons (o:=_) rfl (fun K hK=>?_) zr.nil
      go_simp
      have hb:=zf w50 (.cells #[.int .i64 1] 3);replace HX:=ze (HX.out.below hb);replace HA:=kb_ HA hb;replace HP:=ze (zw.below HP.out hb);clear hb;have HO:Hid (zw (w50.alloc (.cells #[.int .i64 1] 3)) (.slice (some ⟨w50.heap.size,0,none⟩) 1 1) 1):=ze (vP w50 (d:=1) (by omega) (by omega));have hH0:=hHeld;clear hHeld;refine hK.out _ _ (zj (zl (zf _ _) hH0.1) (fun hB=>⟨zh hB xL x0,zh hB xL x1,zh hB xL x2⟩)) (fun hHeld=>?_);clear hH0 hK K
      try simp only [Act.put,List.setIfInBounds_toArray,List.set_cons_zero,List.set_cons_succ]
      generalize (w50.alloc (.cells #[.int .i64 1] 3))=w51 at HX HA HP HO hHeld |-;generalize w50.heap.size=g51 at HO |-;refine HH.take 4 (oi:=_) (v:=?_) rfl (by kernel_rfl) (by kernel_rfl) (by kernel_rfl) (fun _ _ _ h=>h) (Or.inl ⟨by rfl,?_⟩) ‹_› ?_;rotate_left
      . (intro w9 hSw;(try dsimp only at hSw);go_split_ands;go_simp;try with_reducible rfl)
      try simp only [Act.put,List.getElem_toArray,List.getElem_cons_succ,List.getElem_cons_zero,List.setIfInBounds_toArray,List.set_cons_zero,List.set_cons_succ]
      refine HH.ready (rs:=[5]) (by kernel_rfl) (by simp) (by kernel_rfl) ?_;refine zr.cons (o:=_) rfl (fun K hK=>?_) zr.nil
      go_simp
      go_at_call 90;have hbld:vr _ (.agg #[.bool false,.slice Ap (len 1000000000 (10 ^ k)) cp,.slice (some ⟨g51,0,none⟩) 1 1]) (((10 ^ k:Nat):Int):Rat):=⟨_,_,_,_,_,_,_,rfl,(decide_eq_false (Yl k)).symm,HP.out,HO.out⟩;refine (yU _ _ q (((10 ^ k:Nat):Int):Rat) _ HX.out hbld HLX.out HLP.out).mono ?_;rintro e w52 ⟨v5,rfl,hv,hb⟩;clear hbld HX HP HO;replace HA:=kb_ HA hb;have HV:=ze hv;have hH0:=hHeld;clear hHeld;refine hK.out _ _ (zj (zl hb hH0.1) (fun hB=>⟨zh hB xL x0,zh hB xL x1,zh hB xL x2⟩)) (fun hHeld=>?_);clear hH0 hK K
      try simp only [Act.put,List.setIfInBounds_toArray,List.set_cons_zero,List.set_cons_succ]
      clear hb hv;refine HH.ready (rs:=[6]) (by kernel_rfl) (by simp) (by kernel_rfl) ?_;refine zr.cons (o:=_) rfl (fun K hK=>?_) zr.nil
      go_simp
      go_at_call 89;refine (xK _ _ _ HV.out HNL.out).mono ?_;rintro e w53 ⟨v6,rfl,hv,hb⟩;clear HV;replace HA:=kb_ HA hb;have HL:=ze hv;obtain ⟨g6,A6,n6,c6,B6,m6,d6,rfl⟩:zg3 v6:=(by obtain ⟨g6,A6,n6,c6,B6,m6,d6,h6,hh⟩:=hv;exact ⟨_,_,_,_,_,_,_,h6⟩);have hH0:=hHeld;clear hHeld;refine hK.out _ _ (zj (zl hb hH0.1) (fun hB=>⟨zh hB xL x0,zh hB xL x1,zh hB xL x2⟩)) (fun hHeld=>?_);clear hH0 hK K
      try simp only [Act.put,List.setIfInBounds_toArray,List.set_cons_zero,List.set_cons_succ]
      clear hb hv;have a0:=HA.out.cell 0;have a1:=HA.out.cell 1;have a2:=HA.out.cell 2;have f0:=HA.out.frozen 0;have f1:=HA.out.frozen 1;have f2:=HA.out.frozen 2;simp at a0 a1 a2;have hHB:=hHeld.1;have HBY:=(hHeld.1).out;clear HBY hHeld;refine HH.done (by kernel_rfl) ?_;simp only [List.drop_succ_cons,List.drop_zero];go_wp2_with fail;go_meet
      case rel=>exact RdR.mk WB.heap.size HA.out HL.out (ext HW.out hHB.out) (by have:=HW.out.size;have:=HGE.out;omega)
    . skip
      go_simp
      have hb:=zf w49 (.cells #[.int .i64 1] 3);replace HX:=ze (HX.out.below hb);replace HA:=kb_ HA hb;clear hb;have HO:Hid (zw (w49.alloc (.cells #[.int .i64 1] 3)) (.slice (some ⟨w49.heap.size,0,none⟩) 1 1) 1):=ze (vP w49 (d:=1) (by omega) (by omega));have hH0:=hHeld;clear hHeld;refine hK.out _ _ (zj (zl (zf _ _) hH0.1) (fun hB=>⟨zh hB xL x0,zh hB xL x1,zh hB xL x2⟩)) (fun hHeld=>?_);clear hH0 hK K
      try simp only [Act.put,List.setIfInBounds_toArray,List.set_cons_zero,List.set_cons_succ]
      generalize (w49.alloc (.cells #[.int .i64 1] 3))=w54 at HX HA HO hHeld |-;generalize w49.heap.size=g54 at HO |-;refine HH.ready (rs:=[2]) (by kernel_rfl) (by simp) (by kernel_rfl) ?_;refine zr.cons (o:=_) rfl (fun K hK=>?_) zr.nil
      go_simp
      go_at_call 91;refine (Yu k _ (Nat.le_trans HK50.out (by omega))).mono ?_;rintro e w55 ⟨vp,rfl,hv,hb⟩;replace HX:=ze (HX.out.below hb);replace HA:=kb_ HA hb;replace HO:=ze (zw.below HO.out hb);obtain ⟨Ap,cp,rfl⟩:=hv.form;have HP:=ze hv;have hH0:=hHeld;clear hHeld;refine hK.out _ _ (zj (zl hb hH0.1) (fun hB=>⟨zh hB xL x0,zh hB xL x1,zh hB xL x2⟩)) (fun hHeld=>?_);clear hH0 hK K
      try simp only [Act.put,List.setIfInBounds_toArray,List.set_cons_zero,List.set_cons_succ]
      clear hb hv;refine HH.take 4 (oi:=_) (v:=?_) rfl (by kernel_rfl) (by kernel_rfl) (by kernel_rfl) (fun _ _ _ h=>h) (Or.inl ⟨by rfl,?_⟩) ‹_› ?_;rotate_left
      . (intro w9 hSw;(try dsimp only at hSw);go_split_ands;go_simp;try with_reducible rfl)
      try simp only [Act.put,List.getElem_toArray,List.getElem_cons_succ,List.getElem_cons_zero,List.setIfInBounds_toArray,List.set_cons_zero,List.set_cons_succ]
      refine HH.ready (rs:=[5]) (by kernel_rfl) (by simp) (by kernel_rfl) ?_;refine zr.cons (o:=_) rfl (fun K hK=>?_) zr.nil
      go_simp
      go_at_call 90;have hbld:vr _ (.agg #[.bool false,.slice Ap (len 1000000000 (10 ^ k)) cp,.slice (some ⟨g54,0,none⟩) 1 1]) (((10 ^ k:Nat):Int):Rat):=⟨_,_,_,_,_,_,_,rfl,(decide_eq_false (Yl k)).symm,HP.out,HO.out⟩;refine (yU _ _ q (((10 ^ k:Nat):Int):Rat) _ HX.out hbld HLX.out HLP.out).mono ?_;rintro e w56 ⟨v5,rfl,hv,hb⟩;clear hbld HX HP HO;replace HA:=kb_ HA hb;have HV:=ze hv;have hH0:=hHeld;clear hHeld;refine hK.out _ _ (zj (zl hb hH0.1) (fun hB=>⟨zh hB xL x0,zh hB xL x1,zh hB xL x2⟩)) (fun hHeld=>?_);clear hH0 hK K
      try simp only [Act.put,List.setIfInBounds_toArray,List.set_cons_zero,List.set_cons_succ]
      clear hb hv;refine HH.ready (rs:=[6]) (by kernel_rfl) (by simp) (by kernel_rfl) ?_;refine zr.cons (o:=_) rfl (fun K hK=>?_) zr.nil
      go_simp
      go_at_call 89;refine (xK _ _ _ HV.out HNL.out).mono ?_;rintro e w57 ⟨v6,rfl,hv,hb⟩;clear HV;replace HA:=kb_ HA hb;have HL:=ze hv;obtain ⟨g6,A6,n6,c6,B6,m6,d6,rfl⟩:zg3 v6:=(by obtain ⟨g6,A6,n6,c6,B6,m6,d6,h6,hh⟩:=hv;exact ⟨_,_,_,_,_,_,_,h6⟩);have hH0:=hHeld;clear hHeld;refine hK.out _ _ (zj (zl hb hH0.1) (fun hB=>⟨zh hB xL x0,zh hB xL x1,zh hB xL x2⟩)) (fun hHeld=>?_);clear hH0 hK K
      try simp only [Act.put,List.setIfInBounds_toArray,List.set_cons_zero,List.set_cons_succ]
      clear hb hv;have a0:=HA.out.cell 0;have a1:=HA.out.cell 1;have a2:=HA.out.cell 2;have f0:=HA.out.frozen 0;have f1:=HA.out.frozen 1;have f2:=HA.out.frozen 2;simp at a0 a1 a2;have hHB:=hHeld.1;have HBY:=(hHeld.1).out;clear HBY hHeld;refine HH.done (by kernel_rfl) ?_;simp only [List.drop_succ_cons,List.drop_zero];go_wp2_with fail;go_meet
      case rel=>exact RdR.mk WB.heap.size HA.out HL.out (ext HW.out hHB.out) (by have:=HW.out.size;have:=HGE.out;omega)
 case rest=>
 clear HX HBX HW x0 x1 x2 xL
 obtain ⟨gc,g6,A6,n6,c6,B6,m6,d6,rfl,HG,HL,HW⟩:=hcut
 obtain ⟨ng,A,nn,c,B,m,d,he,hng,hs1,hs2⟩:=HL.out
 cases he
 have HS:Hid (zw wc (.slice A6 n6 c6) n.natAbs):=ze (by rw [HN.out];exact hs1)
 have HNG:Hid (g6=decide (n<0)):=ze (by rw [HN.out];exact hng)
 have HLEN:Hid (len 1000000000 n.natAbs<=33554432):=ze (by rw [HN.out];exact Nat.le_trans (Dz.nlen HF.out).1 (by omega))
 have HDL:Hid ((dec n.natAbs).length<=60000):=ze (by rw [HN.out];exact (Dz.short HF.out (show 50000+50+1<60000 by omega)).1)
 clear hs1 hs2 hng HL HF HN HY HLX HLP HNL HK50
 have c0:=HG.out.cell 0
 have c1:=HG.out.cell 1
 have c2:=HG.out.cell 2
 simp at c0 c1 c2
 go_wp2_with fail
 refine (xV _ n.natAbs _ HS.out HLEN.out).mono ?_
 rintro e w2 ⟨rfl,rfl⟩
 obtain ⟨s,hs⟩:∃ s:ByteArray,s=⟨(dec n.natAbs).toArray⟩:=⟨_,rfl⟩
 have hse:str (dec n.natAbs)= .string s:=by rw [hs]
 rw [hse]
 have hs1:bts s=dec n.natAbs:=by rw [hs];exact vj _
 have HS1:=ze hs1
 clear hs hs1 hse HS HLEN
 go_wp2_with fail
 go_loopw [9] (PadR wc k (dec n.natAbs)) (fun sv _=>match sv with | .string t=>k+1 - t.size | _=>0)
 case atStart=>exact ⟨0,s,rfl,by rw [HS1.out];rfl,.inl rfl,rfl⟩
 case round=>
  obtain ⟨j,t,rfl,HT,HJ,rfl⟩:=hrel
  have hdl:=HDL.out
  have htl:t.size=j+(dec n.natAbs).length:=by rw [<- zi,HT.out,List.length_append];unfold zs;rw [List.length_replicate]
  by_cases hle:t.size<=k
  . have hlI:(t.size:Int)<=(k:Int):=by omega
    have HTL:=ze htl;clear htl
    have HT2:Hid (bts (⟨#[48]⟩ ++ t)=zs (j+1) ++ dec n.natAbs):=ze (by
     rw [yu,HT.out];rfl)
    have HJ2:Hid (j+1=0\/j+1+(dec n.natAbs).length<=k+1):=.inr (by have:=HTL.out;omega)
    have hz:(⟨#[48]⟩ ++ t:ByteArray).size=t.size+1:=by
     rw [<- zi,yu,List.length_append,zi,zi];have:(⟨#[48]⟩:ByteArray).size=1:=rfl
     omega
    have HZ:=ze hz;clear hz;go_wp2_with fail;go_roundw
    case rel=>exact ⟨j+1,_,rfl,HT2,HJ2,rfl⟩
    case measure=>show k+1 - (⟨#[48]⟩ ++ t:ByteArray).size<k+1 - t.size;rw [HZ.out];omega
  . have hlI:¬ (t.size:Int)<=(k:Int):=by omega
    have hpd:bts t=zew k (dec n.natAbs):=by
     rw [HT.out];exact zkd HJ.out (by rw [<- HT.out,zi];omega)
    have hj60:t.size<=60100:=by
     rcases HJ.out with h | h
     . omega
     . omega
    have HP:=ze hpd;clear hpd htl HT HJ HDL hdl;have e1:IntKind.i64.wrap ((t.size:Int) - (k:Int))=(t.size:Int) - (k:Int):=by rw [IntKind.wrap_i64];omega
    have e2:0<=(t.size:Int) - (k:Int):=by omega
    have e3:(t.size:Int) - (k:Int)<=(t.size:Int):=by omega
    have e4:((t.size:Int) - (k:Int)).toNat=t.size - k:=by omega
    have e5:(t.extract 0 (t.size - k)).size=t.size - k:=by rw [<- zi,yh,List.drop_zero,List.length_take,zi];omega
    have e6:(t.extract (t.size - k) t.size).size=k:=by rw [<- zi,yh,List.length_drop,List.length_take,zi];omega
    have hx0:bts (t.extract 0 (t.size - k))=(bts t).take (t.size - k):=by rw [yh,List.drop_zero]
    have hx1:bts (t.extract (t.size - k) t.size)=(bts t).drop (t.size - k):=by rw [yh, <- zi,List.take_length]
    have HX0:=ze hx0;have HX1:=ze hx1;clear hx0 hx1
    have hpt:0<k->Zp k (bts t)=bts (t.extract 0 (t.size - k) ++ (⟨#[46]⟩ ++ t.extract (t.size - k) t.size)):=fun h=>by
     rw [yu,yu,HX0.out,HX1.out];unfold Zp;rw [if_pos h,zi];rfl
    have hpz:¬ 0<k->Zp k (bts t)=bts (t.extract 0 (t.size - k)):=fun h=>by
     rw [HX0.out];unfold Zp;rw [if_neg h,List.append_nil,zi]
    have HPT:=ze hpt;have HPZ:=ze hpz;have HR:=ze (show zlh n k=(if n<0 then [45] else []) ++ Zp k (bts t) by rw [HP.out];rfl);clear hpt hpz HX0 HX1 HP
    by_cases h0:0<k
    . have hkI:(0:Int)<(k:Int):=by omega
      replace HR:=ze (show zlh n k=(if n<0 then [45] else []) ++ bts (t.extract 0 (t.size - k) ++ (⟨#[46]⟩ ++ t.extract (t.size - k) t.size)) by rw [HR.out,HPT.out h0])
      have hsz:(t.extract 0 (t.size - k) ++ (⟨#[46]⟩ ++ t.extract (t.size - k) t.size)).size<=60200:=by
       rw [<- zi,yu,yu,List.length_append,List.length_append,zi,zi,zi,e5,e6];have:(⟨#[46]⟩:ByteArray).size=1:=rfl
       omega
      by_cases hn0:n<0
      . obtain rfl:g6=true:=by rw [HNG.out,decide_eq_true hn0]
        rw [if_pos hn0] at HR;clear HPT HPZ hn0 HNG;go_wp2_with fail;go_ret2;rw [HR.out]
        have hv:str ([45] ++ bts (t.extract 0 (t.size - k) ++ (⟨#[46]⟩ ++ t.extract (t.size - k) t.size)))= .string (⟨#[45]⟩ ++ (t.extract 0 (t.size - k) ++ (⟨#[46]⟩ ++ t.extract (t.size - k) t.size))):=by
         have:[45] ++ bts (t.extract 0 (t.size - k) ++ (⟨#[46]⟩ ++ t.extract (t.size - k) t.size))=bts (⟨#[45]⟩ ++ (t.extract 0 (t.size - k) ++ (⟨#[46]⟩ ++ t.extract (t.size - k) t.size))):=by rw [yu];rfl
         rw [this,Yw]
        refine ⟨?_,HW.out⟩
        show _=Ending.returned (.tuple #[str ([45] ++ bts (t.extract 0 (t.size - k) ++ (⟨#[46]⟩ ++ t.extract (t.size - k) t.size))),.int .i64 0])
        rw [hv]
        rfl
      . obtain rfl:g6=false:=by rw [HNG.out,decide_eq_false hn0]
        rw [if_neg hn0] at HR;clear HPT HPZ hn0 HNG;go_wp2_with fail;go_ret2;rw [HR.out];have hv:str ([] ++ bts (t.extract 0 (t.size - k) ++ (⟨#[46]⟩ ++ t.extract (t.size - k) t.size)))= .string (t.extract 0 (t.size - k) ++ (⟨#[46]⟩ ++ t.extract (t.size - k) t.size)):=by rw [List.nil_append,Yw]
        refine ⟨?_,HW.out⟩
        show _=Ending.returned (.tuple #[str ([] ++ bts (t.extract 0 (t.size - k) ++ (⟨#[46]⟩ ++ t.extract (t.size - k) t.size))),.int .i64 0])
        rw [hv]
        rfl
    . have hkd:decide ((0:Int)<(k:Int))=false:=decide_eq_false (by omega)
      have H0:=ze h0;replace HR:=ze (show zlh n k=(if n<0 then [45] else []) ++ bts (t.extract 0 (t.size - k)) by rw [HR.out,HPZ.out h0]);have hsz:(t.extract 0 (t.size - k)).size<=60200:=by rw [e5];omega
      by_cases hn0:n<0
      . obtain rfl:g6=true:=by rw [HNG.out,decide_eq_true hn0]
        rw [if_pos hn0] at HR;clear HPT HPZ hn0 HNG;clear h0;go_wp2_with fail;go_ret2;rw [HR.out]
        have hv:str ([45] ++ bts (t.extract 0 (t.size - k)))= .string (⟨#[45]⟩ ++ (t.extract 0 (t.size - k))):=by
         have:[45] ++ bts (t.extract 0 (t.size - k))=bts (⟨#[45]⟩ ++ (t.extract 0 (t.size - k))):=by rw [yu];rfl
         rw [this,Yw]
        refine ⟨?_,HW.out⟩
        show _=Ending.returned (.tuple #[str ([45] ++ bts (t.extract 0 (t.size - k))),.int .i64 0])
        rw [hv]
        rfl
      . obtain rfl:g6=false:=by rw [HNG.out,decide_eq_false hn0]
        rw [if_neg hn0] at HR;clear HPT HPZ hn0 HNG;clear h0;go_wp2_with fail;go_ret2;rw [HR.out];have hv:str ([] ++ bts (t.extract 0 (t.size - k)))= .string (t.extract 0 (t.size - k)):=by rw [List.nil_append,Yw]
        refine ⟨?_,HW.out⟩
        show _=Ending.returned (.tuple #[str ([] ++ bts (t.extract 0 (t.size - k))),.int .i64 0])
        rw [hv]
        rfl
end Go.Proofs.YtnpbflhjglkokaaGreatDoor
