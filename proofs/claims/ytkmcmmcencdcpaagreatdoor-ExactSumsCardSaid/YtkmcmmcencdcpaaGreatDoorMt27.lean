/- Parts of the proof: memory, numbers, walks of the functions that are called. -/
import Derived.Test.YtkmcmmcencdcpaaGreatDoorMt26
set_option linter.unusedVariables false
set_option linter.unusedSimpArgs false
set_option maxRecDepth 100000
set_option maxHeartbeats 32000000
namespace Go.Proofs.YtkmcmmcencdcpaaGreatDoor
open Go.RowKit Go.Deep
attribute [local go_sem ↓] Go.wp_at_zero Go.wp_at_succ
theorem zh4:(Tryz.prog.info? 9).map (fun i=>(i.zero,i.size,i.bytes))=some (some (.string ⟨#[]⟩),1,16):=by kernel_rfl
theorem YB:Tryz.prog.underlying 77=some (.slice 9):=by kernel_rfl
theorem xt.count {l ns:List (List UInt8)} (h:xt l ns):l.length<=ns.length:=by rw [h.eq];exact ZY ns
theorem ZT (l:List (List UInt8)):∀ u∈l.map str,u.oneCell' =true:=by
 intro u hu
 obtain ⟨x,_,rfl⟩:=List.mem_map.1 hu
 rfl
def WthR (w0:World) (B:Nat) (tv:Value) (t:List zG) (ns:List (List UInt8)) (lv iv:Value) (wr:World):Prop:=
 ∃ (i:Nat) (l:List (List UInt8)),i<=t.length/\iv= .int .i64 i/\Hid (xt l (ns ++ (t.take i).map (·.name)))/\Hid (yg wr wr.heap.size lv l)/\Hid (zk wr B tv t)/\Hid (Below w0.heap.size w0 wr)
def WthK (w0:World) (B:Nat) (tv:Value) (t:List zG) (lv:Value) (l:List (List UInt8)) (s:List UInt8) (pv:Value) (wr:World):Prop:=
 ∃ p:Nat,p<=l.length/\pv= .int .i64 p/\Hid (∀ j (h:j<l.length),j<p->l[j]<s)/\Hid (yg wr wr.heap.size lv l)/\Hid (zk wr B tv t)/\Hid (Below w0.heap.size w0 wr)
theorem Xb {w w' :World} {v:Value} {l:List (List UInt8)} (h:yg w w.heap.size v l) (hb:Below w.heap.size w w'):yg w' w'.heap.size v l:=(h.below hb).more hb.size
def zj8 (w:World) (ns:List (List UInt8)) (e:Ending) (w' :World):Prop:=∃ v l,e= .returned v/\xt l ns/\yg w' w'.heap.size v l/\Below w.heap.size w w'
theorem zoj (A A2:Option Addr) (n c n2 c2 B:Nat) (l ns:List (List UInt8)) (t:List zG) (w:World) (hl:yg w w.heap.size (.slice A n c) l) (hin:xt l ns) (ht:zk w B (.slice A2 n2 c2) t) (hB:B<=w.heap.size) (hcnt:ns.length+t.length<=100000):
 Calls Tryz.prog 160 #[.slice A n c,.slice A2 n2 c2] w (zj8 w (ns ++ t.map (·.name))):=by
 obtain rfl:=ht.len
 have htb:=ht.bound
 have HL:=ze hl
 have HIN:Hid (xt l (ns ++ (t.take 0).map (·.name))):=ze (by rw [List.take_zero,List.map_nil,List.append_nil];exact hin)
 have HT:=ze ht
 have HB:=ze hB
 have HW:=ze (Below.refl w.heap.size w)
 have HCN:=ze hcnt
 clear hl hin ht hB hcnt
 go_enter Tryz.func160,Tryz.ntmps160
 go_wp2_with fail
 go_loopw [0,5] (WthR w B (.slice A2 t.length c2) t ns) (fun _ iv _=>t.length - (intOf iv).toNat)
 case atStart=>exact ⟨0,l,Nat.zero_le _,rfl,HIN,HL,HT,HW⟩
 case round=>
  clear HIN HL HT HW
  obtain ⟨i,l,hi,rfl,HIN,HL,HT,HW⟩:=hrel
  obtain ⟨AL,cl,rfl,hlc,hcm,hl1,hrd,hsm⟩:=id HL.out
  by_cases hil:i<t.length
  . have hii:(i:Int)<(t.length:Int):=by omega
    obtain ⟨ad,eA,hbb,p0,p1,hs1,hs2⟩:=HT.out.at_ hil;subst eA;have HNX:Hid (ns ++ (t.take (i+1)).map (·.name)=(ns ++ (t.take i).map (·.name)) ++ [t[i].name]):=ze (by rw [zcd hil,List.append_assoc]);obtain ⟨s,hs⟩:∃ s,t[i].name=s:=⟨_,rfl⟩;rw [hs] at p0 hs1 HNX;have HS1:=ze hs1;have HSE:=ze hs;have HCM:=ze hcm;have hlci:(l.length:Int)<=(cl:Int):=by omega
    have HLN:Hid (l.length+1<=100000):=ze (by
     have h1:=HIN.out.count;rw [List.length_append,List.length_map,List.length_take] at h1;have:=HCN.out
     omega)
    obtain ⟨ad0,had0⟩:∃ a,a=ad:=⟨_,rfl⟩;clear hs hs1 hs2 p1 hrd hsm hcm p0 hbb;go_wp2_with fail
    go_loopw [6] (WthK w B (.slice (some ad) t.length c2) t (.slice AL l.length cl) l s) (fun pv _=>l.length - (intOf pv).toNat)
    case atStart=>exact ⟨0,Nat.zero_le _,rfl,(fun j h hj=>by omega),HL,HT,HW⟩
    case round=>
     clear HL HT HW;obtain ⟨p,hp,rfl,HLT,HL,HT,HW⟩:=hrel;obtain ⟨ad',eA',hbb,p0,p1,_,_⟩:=HT.out.at_ hil;injection eA' with eA'
     subst eA';rw [HSE.out] at p0
     by_cases hpl:p<l.length
     . have hpi:(p:Int)<(l.length:Int):=by omega
       obtain ⟨adl,eL,hbl,c1⟩:=HL.out.at_ hpl;subst eL;obtain ⟨x,hx⟩:∃ x,l[p]=x:=⟨_,rfl⟩;rw [hx] at c1;have hless:=vS x s;have hdi:decide ((p:Int)<(l.length:Int))=true:=decide_eq_true hpi
       by_cases hlt:x<s
       . rw [decide_eq_true hlt] at hless
         have HLT2:Hid (∀ j (h:j<l.length),j<p+1->l[j]<s):=ze (fun j h hj=>by
          by_cases e:j=p
          . subst e;rw [hx];exact hlt
          . exact HLT.out j h (by omega))
         clear hx hlt p1 hbl;go_wp2_with fail
         go_quiet (fail)
         have hbB:=zw wr nq;replace HL:=ze (Xb HL.out hbB);replace HT:=ze (zk.below HT.out hbB);replace HW:=eb_ HW hbB;clear hbB;generalize wr.drewN nq=wa at HL HT HW |-;clear nq;go_wp2_with fail;go_roundw
         case rel=>exact ⟨p+1,by omega,by go_num,HLT2,HL,HT,HW⟩
         case measure=>simp [intOf];omega
       . rw [decide_eq_false hlt] at hless
         have HX:=ze hx;have HLT3:=ze hlt;clear hx hlt p1 hbl;go_wp2_with fail
         go_quiet (fail)
         have hbB:=zw wr nq;replace HL:=ze (Xb HL.out hbB);replace HT:=ze (zk.below HT.out hbB);replace HW:=eb_ HW hbB;clear hbB;generalize wr.drewN nq=wa at HL HT HW |-;clear nq;clear c1 p0 hless hbb;obtain ⟨ad',eA',hbb,p0,p1,_,_⟩:=HT.out.at_ hil;injection eA' with eA'
         subst eA';rw [HSE.out] at p0;obtain ⟨adl',eL',hbl,c1⟩:=HL.out.at_ hpl;injection eL' with eL'
         subst eL';rw [HX.out] at c1;have hdp:((p:Int) == (l.length:Int))=false:=by rw [beq_eq_false_iff_ne];omega
         have he:(x == s)=decide (x=s):=by by_cases h:x=s<;>simp [h]
         clear p1 hbl
         by_cases hxs:x=s
         . rw [decide_eq_true hxs] at he
           have HIN2:Hid (xt l (ns ++ (t.take (i+1)).map (·.name))):=ze (by
            rw [HNX.out]
            exact zpq HIN.out (by rw [<- hxs, <- HX.out];exact List.getElem_mem _))
           clear hxs;go_wp2_with fail
           go_quiet (fail)
           have hbB:=zw wa nq;replace HL:=ze (Xb HL.out hbB);replace HT:=ze (zk.below HT.out hbB);replace HW:=eb_ HW hbB;clear hbB;generalize wa.drewN nq=wd at HL HT HW |-;clear nq;go_wp2_with fail;go_roundw
           case rel=>exact ⟨i+1,l,by omega,by go_num,HIN2,HL,HT,HW⟩
           case measure=>simp [intOf];omega
         . rw [decide_eq_false hxs] at he
           have HAT:Hid (∀ hp:p<l.length,¬ l[p]<s/\l[p]≠s):=ze (fun _=>⟨by rw [HX.out];exact HLT3.out,by rw [HX.out];exact hxs⟩);clear hxs;go_wp2_with fail
           go_quiet (fail)
           have hbB:=zw wa nq;replace HL:=ze (Xb HL.out hbB);replace HT:=ze (zk.below HT.out hbB);replace HW:=eb_ HW hbB;clear hbB;generalize wa.drewN nq=wd at HL HT HW |-;clear nq;clear c1 p0 he hdp hbb
           go_upto_region 8 with fail
           obtain ⟨i0,hi0,hz0,hz1,hz2⟩:=info_parts zh4;have hpI:(p:Int)<=(l.length:Int):=by omega
           have hpC:(p:Int)<=(cl:Int):=by omega
           obtain ⟨ad',eA',hbb,p0,p1,_,_⟩:=HT.out.at_ hil;injection eA' with eA'
           subst eA';rw [HSE.out] at p0;clear p1;obtain ⟨A',c',e',hlc2,_,_,hrd,hsm⟩:=id HL.out;injection e' with e1 e2 e3
           subst e1;subst e3;have HRD:=ze hrd;have HSM:=ze hsm;clear e2 hrd hsm;have aL:ad.block<wd.heap.size:=Nat.lt_of_lt_of_le hbb (Nat.le_trans HB.out HW.out.size)
           have HR1:Hid (∀ w',Below wd.heap.size wd w' ->zY w' wd.heap.size 1 (some adl) p ((l.take p).map str)):=ze (fun w' hb=>by
            have h:=(HRD.out.below hb).head hp;rw [Nat.mul_one, <- List.map_take] at h
            exact h)
           have HR2:Hid (∀ w',Below wd.heap.size wd w' ->zY w' wd.heap.size 1 (if cl=p then (some adl) else (some (adl.add p))) (l.length - p) ((l.drop p).map str)):=ze (fun w' hb=>by
            have h:=(HRD.out.below hb).cut hp hlc;rw [Nat.mul_one, <- List.map_drop] at h
            exact h)
           have HPN:Hid (xt (l.take p ++ s :: l.drop p) (ns ++ (t.take (i+1)).map (·.name))):=ze (by
            rw [HNX.out]
            exact zl9 HIN.out HLT.out HAT.out)
           have HPL:Hid ((l.take p ++ s :: l.drop p).length=0+p+1+(l.length - p)):=ze (by
            rw [List.length_append,List.length_cons,List.length_take,List.length_drop];omega)
           have HPS:Hid (∀ x∈l.take p ++ s :: l.drop p,yo x):=ze (fun x hx=>by
            rcases List.mem_append.1 hx with hx | hx
            . exact HSM.out x (List.mem_of_mem_take hx)
            . rcases List.mem_cons.1 hx with rfl | hx
              . exact HS1.out
              . exact HSM.out x (List.mem_of_mem_drop hx))
           have HPX:Hid (((([]:List Value) ++ (l.take p).map str) ++ [str s]) ++ (l.drop p).map str=(l.take p ++ s :: l.drop p).map str):=ze (by simp);refine yA (S:=fun w' =>Hid (Below wd.heap.size wd w')/\w'.cell? (ad.add (i*2))=some (str s)) 15 (by kernel_rfl) (by kernel_rfl) (zm (zv wd) (fun hB=>xl hB aL p0)) (fun hHeld=>?_);refine HH.tk 0 ?_;refine HH.tk 1 ?_;refine HH.tk 2 ?_;refine HH.tk 4 ?_;refine HH.tk 5 ?_;refine HH.tk 6 ?_;refine HH.tk 7 ?_;refine HH.tk 8 ?_;refine HH.tk 11 ?_;refine HH.tk 12 ?_;refine HH.tk 13 ?_;refine HH.ready (rs:=[3,9]) (by kernel_rfl) (by simp) (by kernel_rfl) ?_;refine yO.cons (o:=_) rfl (fun K hK=>?_) (yO.cons (o:=_) rfl (fun K hK=>?_) yO.nil)
           . skip
             rw [if_pos (by rfl)];refine yx (P:=Tryz.prog) (w:=wd.drew) (.const (.slice none 0 0)) (.tmp 49) _ rfl wd.heap.size 9 i0 _ 1 16 YB hi0 hz0 hz1 hz2 rfl (by omega) (.slice none 0 0) 0 [] rfl (World.ownsRow_nil _ _ _ _) _ (some adl) p cl _ rfl (HR1.out wd.drew (zv wd).out) (ZT _) (by have:=HLN.out;unfold maxLen;omega) (by have:=HLN.out;omega) (Nat.le_refl _) ?_;intro v1 w1 hown1 hgr1 hat1;have hb1:Below wd.heap.size wd w1:=(zv wd).out.grown hgr1 (Nat.le_refl _) (fun k hk=>by cases hk);have hH0:=hHeld;clear hHeld;refine hK.out _ _ (zm ((ze hb1)) (fun hB=>xl hB aL p0)) (fun hHeld=>?_);clear hH0 hK K
             try simp only [Act.put,List.setIfInBounds_toArray,List.set_cons_zero,List.set_cons_succ]
             refine HH.rd 9 (fun K hK=>?_)
             go_simp
             have hb2:Below wd.heap.size wd (w1.alloc (.cells #[str s] 9)):=ext hb1 (zf w1 _);have hH0:=hHeld;clear hHeld;refine hK.out _ _ (zm ((ze hb2)) (fun hB=>xl hB aL p0)) (fun hHeld=>?_);clear hH0 hK K
             try simp only [Act.put,List.setIfInBounds_toArray,List.set_cons_zero,List.set_cons_succ]
             have hown2:=World.ownsRow.alloc hown1 (.cells #[str s] 9);have hrs:=xj w1 9 (str s);have HOWN:=ze hown2;have HRS:=ze hrs;have HBA:=ze hb2;clear hb1 hb2 hown1 hown2 hgr1 hat1 hrs;generalize w1.alloc (.cells #[str s] 9)=wA at HOWN HRS HBA hHeld |-;generalize w1.heap.size=gs at HRS |-;refine HH.ready (rs:=[10]) (by kernel_rfl) (by simp) (by kernel_rfl) ?_;refine yO.cons (o:=_) rfl (fun K hK=>?_) yO.nil;rw [if_pos (by rfl)];refine yx (P:=Tryz.prog) (w:=wA) (.tmp 50) (.tmp 56) _ rfl wd.heap.size 9 i0 _ 1 16 YB hi0 hz0 hz1 hz2 rfl (by omega) v1 (0+p) _ rfl HOWN.out _ (some ⟨gs,0,none⟩) 1 1 [str s] rfl HRS.out (by intro u hu;rw [List.mem_singleton] at hu;subst hu;rfl) (by have:=HLN.out;unfold maxLen;omega) (by have:=HLN.out;omega) HBA.out.size ?_;intro v2 wB hown2 hgr2 hat2;have hb4:Below wd.heap.size wd wB:=HBA.out.grown hgr2 HBA.out.size (fun k e=>(HOWN.out.lt k e).1);have hH0:=hHeld;clear hHeld;refine hK.out _ _ (zm ((ze hb4)) (fun hB=>xl hB aL p0)) (fun hHeld=>?_);clear hH0 hK K
             try simp only [Act.put,List.setIfInBounds_toArray,List.set_cons_zero,List.set_cons_succ]
             refine HH.ready (rs:=[14]) (by kernel_rfl) (by simp) (by kernel_rfl) ?_;refine yO.cons (o:=_) rfl (fun K hK=>?_) yO.nil;rw [if_pos (by rfl)];refine yx (P:=Tryz.prog) (w:=wB) (.tmp 57) (.tmp 60) _ rfl wd.heap.size 9 i0 _ 1 16 YB hi0 hz0 hz1 hz2 rfl (by omega) v2 (0+p+1) _ rfl hown2 _ _ (l.length - p) (cl - p) _ rfl (HR2.out _ hb4) (ZT _) (by have:=HLN.out;unfold maxLen;omega) (by have:=HLN.out;omega) hb4.size ?_;intro v3 wC hown3 hgr3 hat3;have hb5:Below wd.heap.size wd wC:=hb4.grown hgr3 hb4.size (fun k e=>(hown2.lt k e).1);have hH0:=hHeld;clear hHeld;refine hK.out _ _ (zm ((ze hb5)) (fun hB=>xl hB aL p0)) (fun hHeld=>?_);clear hH0 hK K
             try simp only [Act.put,List.setIfInBounds_toArray,List.set_cons_zero,List.set_cons_succ]
             have HBY:=(hHeld.1).out;clear HBY hHeld;refine HH.done (by kernel_rfl) ?_;simp only [List.drop_succ_cons,List.drop_zero];rw [HPX.out, <- HPL.out] at hown3;have hnm:=Zo hown3 (by rw [HPL.out];have:=HLN.out;omega) HPS.out;have HNM:=ze hnm;have HT5:=ze (zk.below' HT.out (hb5.mono (Nat.le_trans HB.out HW.out.size)));have HW5:=ze (HW.out.trans (hb5.mono HW.out.size));clear hb4 hb5 hown2 hown3 hgr2 hgr3 hat2 hat3 hnm HOWN HRS HBA HR1 HR2 hi0 hz0 hz1 hz2;go_wp2_with fail;go_roundw
             case rel=>exact ⟨i+1,_,by omega,by go_num,HPN,HNM,HT5,HW5⟩
             case measure=>simp [intOf];omega
           . skip
             go_simp
             have hb1:Below wd.heap.size wd (wd.alloc (.cells #[str s] 9)).drew:=(yF wd _).out;have hH0:=hHeld;clear hHeld;refine hK.out _ _ (zm (yF wd _) (fun hB=>xl hB aL p0)) (fun hHeld=>?_);clear hH0 hK K
             try simp only [Act.put,List.setIfInBounds_toArray,List.set_cons_zero,List.set_cons_succ]
             have hrs:=xj wd 9 (str s);refine HH.ready (rs:=[3]) (by kernel_rfl) (by simp) (by kernel_rfl) ?_;refine yO.cons (o:=_) rfl (fun K hK=>?_) yO.nil;rw [if_pos (by rfl)];refine yx (P:=Tryz.prog) (w:=(wd.alloc (.cells #[str s] 9)).drew) (.const (.slice none 0 0)) (.tmp 49) _ rfl wd.heap.size 9 i0 _ 1 16 YB hi0 hz0 hz1 hz2 rfl (by omega) (.slice none 0 0) 0 [] rfl (World.ownsRow_nil _ _ _ _) _ (some adl) p cl _ rfl (HR1.out _ hb1) (ZT _) (by have:=HLN.out;unfold maxLen;omega) (by have:=HLN.out;omega) hb1.size ?_;intro v1 wA hown1 hgr1 hat1;have hb2:Below (wd.alloc (.cells #[str s] 9)).drew.heap.size (wd.alloc (.cells #[str s] 9)).drew wA:=(Below.refl _ _).grown hgr1 (Nat.le_refl _) (fun k hk=>by cases hk);have hb3:=ext hb1 hb2;have hH0:=hHeld;clear hHeld;refine hK.out _ _ (zm ((ze hb3)) (fun hB=>xl hB aL p0)) (fun hHeld=>?_);clear hH0 hK K
             try simp only [Act.put,List.setIfInBounds_toArray,List.set_cons_zero,List.set_cons_succ]
             have HOWN:=ze hown1;have hrs2:zY (wd.alloc (.cells #[str s] 9)).drew (wd.alloc (.cells #[str s] 9)).drew.heap.size 1 (some ⟨wd.heap.size,0,none⟩) 1 [str s]:=zY.more (zY.drew hrs) (by show _<=(wd.alloc (.cells #[str s] 9)).heap.size;rw [World.size_alloc];exact Nat.le_refl _);have HRS:=ze ((zY.below hrs2 hb2).more hb2.size);have HBA:=ze hb3;clear hb1 hb2 hb3 hown1 hgr1 hat1 hrs hrs2;refine HH.ready (rs:=[10]) (by kernel_rfl) (by simp) (by kernel_rfl) ?_;refine yO.cons (o:=_) rfl (fun K hK=>?_) yO.nil;rw [if_pos (by rfl)];refine yx (P:=Tryz.prog) (w:=wA) (.tmp 50) (.tmp 56) _ rfl wd.heap.size 9 i0 _ 1 16 YB hi0 hz0 hz1 hz2 rfl (by omega) v1 (0+p) _ rfl HOWN.out _ (some ⟨wd.heap.size,0,none⟩) 1 1 [str s] rfl HRS.out (by intro u hu;rw [List.mem_singleton] at hu;subst hu;rfl) (by have:=HLN.out;unfold maxLen;omega) (by have:=HLN.out;omega) HBA.out.size ?_;intro v2 wB hown2 hgr2 hat2;have hb4:Below wd.heap.size wd wB:=HBA.out.grown hgr2 HBA.out.size (fun k e=>(HOWN.out.lt k e).1);have hH0:=hHeld;clear hHeld;refine hK.out _ _ (zm ((ze hb4)) (fun hB=>xl hB aL p0)) (fun hHeld=>?_);clear hH0 hK K
             try simp only [Act.put,List.setIfInBounds_toArray,List.set_cons_zero,List.set_cons_succ]
             refine HH.ready (rs:=[14]) (by kernel_rfl) (by simp) (by kernel_rfl) ?_;refine yO.cons (o:=_) rfl (fun K hK=>?_) yO.nil;rw [if_pos (by rfl)];refine yx (P:=Tryz.prog) (w:=wB) (.tmp 57) (.tmp 60) _ rfl wd.heap.size 9 i0 _ 1 16 YB hi0 hz0 hz1 hz2 rfl (by omega) v2 (0+p+1) _ rfl hown2 _ _ (l.length - p) (cl - p) _ rfl (HR2.out _ hb4) (ZT _) (by have:=HLN.out;unfold maxLen;omega) (by have:=HLN.out;omega) hb4.size ?_;intro v3 wC hown3 hgr3 hat3;have hb5:Below wd.heap.size wd wC:=hb4.grown hgr3 hb4.size (fun k e=>(hown2.lt k e).1);have hH0:=hHeld;clear hHeld;refine hK.out _ _ (zm ((ze hb5)) (fun hB=>xl hB aL p0)) (fun hHeld=>?_);clear hH0 hK K
             try simp only [Act.put,List.setIfInBounds_toArray,List.set_cons_zero,List.set_cons_succ]
             have HBY:=(hHeld.1).out;clear HBY hHeld;refine HH.done (by kernel_rfl) ?_;simp only [List.drop_succ_cons,List.drop_zero];rw [HPX.out, <- HPL.out] at hown3;have hnm:=Zo hown3 (by rw [HPL.out];have:=HLN.out;omega) HPS.out;have HNM:=ze hnm;have HT5:=ze (zk.below' HT.out (hb5.mono (Nat.le_trans HB.out HW.out.size)));have HW5:=ze (HW.out.trans (hb5.mono HW.out.size));clear hb4 hb5 hown2 hown3 hgr2 hgr3 hat2 hat3 hnm HOWN HRS HBA HR1 HR2 hi0 hz0 hz1 hz2;go_wp2_with fail;go_roundw
             case rel=>exact ⟨i+1,_,by omega,by go_num,HPN,HNM,HT5,HW5⟩
             case measure=>simp [intOf];omega
     . have hpi:decide ((p:Int)<(l.length:Int))=false:=decide_eq_false (by omega)
       have hpn:decide (p<l.length)=false:=decide_eq_false hpl;have hdp:((p:Int) == (l.length:Int))=true:=by rw [beq_iff_eq];omega
       have HAT:Hid (∀ hp:p<l.length,¬ l[p]<s/\l[p]≠s):=ze (fun h=>absurd h hpl);clear hpl p1 p0 hbb;go_wp2_with fail
       go_quiet (fail)
       have hbB:=zw wr nq;replace HL:=ze (Xb HL.out hbB);replace HT:=ze (zk.below HT.out hbB);replace HW:=eb_ HW hbB;clear hbB;generalize wr.drewN nq=wa at HL HT HW |-;clear nq;go_wp2_with fail
       go_quiet (fail)
       have hbB:=zw wa nq;replace HL:=ze (Xb HL.out hbB);replace HT:=ze (zk.below HT.out hbB);replace HW:=eb_ HW hbB;clear hbB;generalize wa.drewN nq=wd at HL HT HW |-;clear nq;clear hdp
       go_upto_region 8 with fail
       obtain ⟨i0,hi0,hz0,hz1,hz2⟩:=info_parts zh4;have hpI:(p:Int)<=(l.length:Int):=by omega
       have hpC:(p:Int)<=(cl:Int):=by omega
       obtain ⟨ad',eA',hbb,p0,p1,_,_⟩:=HT.out.at_ hil;injection eA' with eA'
       subst eA';rw [HSE.out] at p0;clear p1;obtain ⟨A',c',e',hlc2,_,_,hrd,hsm⟩:=id HL.out;injection e' with e1 e2 e3
       subst e1;subst e3;have HRD:=ze hrd;have HSM:=ze hsm;clear e2 hrd hsm;have aL:ad.block<wd.heap.size:=Nat.lt_of_lt_of_le hbb (Nat.le_trans HB.out HW.out.size)
       have HR1:Hid (∀ w',Below wd.heap.size wd w' ->zY w' wd.heap.size 1 AL p ((l.take p).map str)):=ze (fun w' hb=>by
        have h:=(HRD.out.below hb).head hp;rw [Nat.mul_one, <- List.map_take] at h
        exact h)
       have HR2:Hid (∀ w',Below wd.heap.size wd w' ->zY w' wd.heap.size 1 (if cl=p then AL else (Option.map (fun x=>x.add p) AL)) (l.length - p) ((l.drop p).map str)):=ze (fun w' hb=>by
        have h:=(HRD.out.below hb).cut hp hlc;rw [Nat.mul_one, <- List.map_drop] at h
        exact h)
       have HPN:Hid (xt (l.take p ++ s :: l.drop p) (ns ++ (t.take (i+1)).map (·.name))):=ze (by
        rw [HNX.out]
        exact zl9 HIN.out HLT.out HAT.out)
       have HPL:Hid ((l.take p ++ s :: l.drop p).length=0+p+1+(l.length - p)):=ze (by
        rw [List.length_append,List.length_cons,List.length_take,List.length_drop];omega)
       have HPS:Hid (∀ x∈l.take p ++ s :: l.drop p,yo x):=ze (fun x hx=>by
        rcases List.mem_append.1 hx with hx | hx
        . exact HSM.out x (List.mem_of_mem_take hx)
        . rcases List.mem_cons.1 hx with rfl | hx
          . exact HS1.out
          . exact HSM.out x (List.mem_of_mem_drop hx))
       have HPX:Hid (((([]:List Value) ++ (l.take p).map str) ++ [str s]) ++ (l.drop p).map str=(l.take p ++ s :: l.drop p).map str):=ze (by simp);refine yA (S:=fun w' =>Hid (Below wd.heap.size wd w')/\w'.cell? (ad.add (i*2))=some (str s)) 15 (by kernel_rfl) (by kernel_rfl) (zm (zv wd) (fun hB=>xl hB aL p0)) (fun hHeld=>?_);refine HH.tk 0 ?_;refine HH.tk 1 ?_;refine HH.tk 2 ?_;refine HH.tk 4 ?_;refine HH.tk 5 ?_;refine HH.tk 6 ?_;refine HH.tk 7 ?_;refine HH.tk 8 ?_;refine HH.tk 11 ?_;refine HH.tk 12 ?_;refine HH.tk 13 ?_;refine HH.ready (rs:=[3,9]) (by kernel_rfl) (by simp) (by kernel_rfl) ?_;refine yO.cons (o:=_) rfl (fun K hK=>?_) (yO.cons (o:=_) rfl (fun K hK=>?_) yO.nil)
       . skip
         rw [if_pos (by rfl)];refine yx (P:=Tryz.prog) (w:=wd.drew) (.const (.slice none 0 0)) (.tmp 49) _ rfl wd.heap.size 9 i0 _ 1 16 YB hi0 hz0 hz1 hz2 rfl (by omega) (.slice none 0 0) 0 [] rfl (World.ownsRow_nil _ _ _ _) _ AL p cl _ rfl (HR1.out wd.drew (zv wd).out) (ZT _) (by have:=HLN.out;unfold maxLen;omega) (by have:=HLN.out;omega) (Nat.le_refl _) ?_;intro v1 w1 hown1 hgr1 hat1;have hb1:Below wd.heap.size wd w1:=(zv wd).out.grown hgr1 (Nat.le_refl _) (fun k hk=>by cases hk);have hH0:=hHeld;clear hHeld;refine hK.out _ _ (zm ((ze hb1)) (fun hB=>xl hB aL p0)) (fun hHeld=>?_);clear hH0 hK K
         try simp only [Act.put,List.setIfInBounds_toArray,List.set_cons_zero,List.set_cons_succ]
         refine HH.rd 9 (fun K hK=>?_)
         go_simp
         have hb2:Below wd.heap.size wd (w1.alloc (.cells #[str s] 9)):=ext hb1 (zf w1 _);have hH0:=hHeld;clear hHeld;refine hK.out _ _ (zm ((ze hb2)) (fun hB=>xl hB aL p0)) (fun hHeld=>?_);clear hH0 hK K
         try simp only [Act.put,List.setIfInBounds_toArray,List.set_cons_zero,List.set_cons_succ]
         have hown2:=World.ownsRow.alloc hown1 (.cells #[str s] 9);have hrs:=xj w1 9 (str s);have HOWN:=ze hown2;have HRS:=ze hrs;have HBA:=ze hb2;clear hb1 hb2 hown1 hown2 hgr1 hat1 hrs;generalize w1.alloc (.cells #[str s] 9)=wA at HOWN HRS HBA hHeld |-;generalize w1.heap.size=gs at HRS |-;refine HH.ready (rs:=[10]) (by kernel_rfl) (by simp) (by kernel_rfl) ?_;refine yO.cons (o:=_) rfl (fun K hK=>?_) yO.nil;rw [if_pos (by rfl)];refine yx (P:=Tryz.prog) (w:=wA) (.tmp 50) (.tmp 56) _ rfl wd.heap.size 9 i0 _ 1 16 YB hi0 hz0 hz1 hz2 rfl (by omega) v1 (0+p) _ rfl HOWN.out _ (some ⟨gs,0,none⟩) 1 1 [str s] rfl HRS.out (by intro u hu;rw [List.mem_singleton] at hu;subst hu;rfl) (by have:=HLN.out;unfold maxLen;omega) (by have:=HLN.out;omega) HBA.out.size ?_;intro v2 wB hown2 hgr2 hat2;have hb4:Below wd.heap.size wd wB:=HBA.out.grown hgr2 HBA.out.size (fun k e=>(HOWN.out.lt k e).1);have hH0:=hHeld;clear hHeld;refine hK.out _ _ (zm ((ze hb4)) (fun hB=>xl hB aL p0)) (fun hHeld=>?_);clear hH0 hK K
         try simp only [Act.put,List.setIfInBounds_toArray,List.set_cons_zero,List.set_cons_succ]
         refine HH.ready (rs:=[14]) (by kernel_rfl) (by simp) (by kernel_rfl) ?_;refine yO.cons (o:=_) rfl (fun K hK=>?_) yO.nil;rw [if_pos (by rfl)];refine yx (P:=Tryz.prog) (w:=wB) (.tmp 57) (.tmp 60) _ rfl wd.heap.size 9 i0 _ 1 16 YB hi0 hz0 hz1 hz2 rfl (by omega) v2 (0+p+1) _ rfl hown2 _ _ (l.length - p) (cl - p) _ rfl (HR2.out _ hb4) (ZT _) (by have:=HLN.out;unfold maxLen;omega) (by have:=HLN.out;omega) hb4.size ?_;intro v3 wC hown3 hgr3 hat3;have hb5:Below wd.heap.size wd wC:=hb4.grown hgr3 hb4.size (fun k e=>(hown2.lt k e).1);have hH0:=hHeld;clear hHeld;refine hK.out _ _ (zm ((ze hb5)) (fun hB=>xl hB aL p0)) (fun hHeld=>?_);clear hH0 hK K
         try simp only [Act.put,List.setIfInBounds_toArray,List.set_cons_zero,List.set_cons_succ]
         have HBY:=(hHeld.1).out;clear HBY hHeld;refine HH.done (by kernel_rfl) ?_;simp only [List.drop_succ_cons,List.drop_zero];rw [HPX.out, <- HPL.out] at hown3;have hnm:=Zo hown3 (by rw [HPL.out];have:=HLN.out;omega) HPS.out;have HNM:=ze hnm;have HT5:=ze (zk.below' HT.out (hb5.mono (Nat.le_trans HB.out HW.out.size)));have HW5:=ze (HW.out.trans (hb5.mono HW.out.size));clear hb4 hb5 hown2 hown3 hgr2 hgr3 hat2 hat3 hnm HOWN HRS HBA HR1 HR2 hi0 hz0 hz1 hz2;go_wp2_with fail;go_roundw
         case rel=>exact ⟨i+1,_,by omega,by go_num,HPN,HNM,HT5,HW5⟩
         case measure=>simp [intOf];omega
       . skip
         go_simp
         have hb1:Below wd.heap.size wd (wd.alloc (.cells #[str s] 9)).drew:=(yF wd _).out;have hH0:=hHeld;clear hHeld;refine hK.out _ _ (zm (yF wd _) (fun hB=>xl hB aL p0)) (fun hHeld=>?_);clear hH0 hK K
         try simp only [Act.put,List.setIfInBounds_toArray,List.set_cons_zero,List.set_cons_succ]
         have hrs:=xj wd 9 (str s);refine HH.ready (rs:=[3]) (by kernel_rfl) (by simp) (by kernel_rfl) ?_;refine yO.cons (o:=_) rfl (fun K hK=>?_) yO.nil;rw [if_pos (by rfl)];refine yx (P:=Tryz.prog) (w:=(wd.alloc (.cells #[str s] 9)).drew) (.const (.slice none 0 0)) (.tmp 49) _ rfl wd.heap.size 9 i0 _ 1 16 YB hi0 hz0 hz1 hz2 rfl (by omega) (.slice none 0 0) 0 [] rfl (World.ownsRow_nil _ _ _ _) _ AL p cl _ rfl (HR1.out _ hb1) (ZT _) (by have:=HLN.out;unfold maxLen;omega) (by have:=HLN.out;omega) hb1.size ?_;intro v1 wA hown1 hgr1 hat1;have hb2:Below (wd.alloc (.cells #[str s] 9)).drew.heap.size (wd.alloc (.cells #[str s] 9)).drew wA:=(Below.refl _ _).grown hgr1 (Nat.le_refl _) (fun k hk=>by cases hk);have hb3:=ext hb1 hb2;have hH0:=hHeld;clear hHeld;refine hK.out _ _ (zm ((ze hb3)) (fun hB=>xl hB aL p0)) (fun hHeld=>?_);clear hH0 hK K
         try simp only [Act.put,List.setIfInBounds_toArray,List.set_cons_zero,List.set_cons_succ]
         have HOWN:=ze hown1;have hrs2:zY (wd.alloc (.cells #[str s] 9)).drew (wd.alloc (.cells #[str s] 9)).drew.heap.size 1 (some ⟨wd.heap.size,0,none⟩) 1 [str s]:=zY.more (zY.drew hrs) (by show _<=(wd.alloc (.cells #[str s] 9)).heap.size;rw [World.size_alloc];exact Nat.le_refl _);have HRS:=ze ((zY.below hrs2 hb2).more hb2.size);have HBA:=ze hb3;clear hb1 hb2 hb3 hown1 hgr1 hat1 hrs hrs2;refine HH.ready (rs:=[10]) (by kernel_rfl) (by simp) (by kernel_rfl) ?_;refine yO.cons (o:=_) rfl (fun K hK=>?_) yO.nil;rw [if_pos (by rfl)];refine yx (P:=Tryz.prog) (w:=wA) (.tmp 50) (.tmp 56) _ rfl wd.heap.size 9 i0 _ 1 16 YB hi0 hz0 hz1 hz2 rfl (by omega) v1 (0+p) _ rfl HOWN.out _ (some ⟨wd.heap.size,0,none⟩) 1 1 [str s] rfl HRS.out (by intro u hu;rw [List.mem_singleton] at hu;subst hu;rfl) (by have:=HLN.out;unfold maxLen;omega) (by have:=HLN.out;omega) HBA.out.size ?_;intro v2 wB hown2 hgr2 hat2;have hb4:Below wd.heap.size wd wB:=HBA.out.grown hgr2 HBA.out.size (fun k e=>(HOWN.out.lt k e).1);have hH0:=hHeld;clear hHeld;refine hK.out _ _ (zm ((ze hb4)) (fun hB=>xl hB aL p0)) (fun hHeld=>?_);clear hH0 hK K
         try simp only [Act.put,List.setIfInBounds_toArray,List.set_cons_zero,List.set_cons_succ]
         refine HH.ready (rs:=[14]) (by kernel_rfl) (by simp) (by kernel_rfl) ?_;refine yO.cons (o:=_) rfl (fun K hK=>?_) yO.nil;rw [if_pos (by rfl)];refine yx (P:=Tryz.prog) (w:=wB) (.tmp 57) (.tmp 60) _ rfl wd.heap.size 9 i0 _ 1 16 YB hi0 hz0 hz1 hz2 rfl (by omega) v2 (0+p+1) _ rfl hown2 _ _ (l.length - p) (cl - p) _ rfl (HR2.out _ hb4) (ZT _) (by have:=HLN.out;unfold maxLen;omega) (by have:=HLN.out;omega) hb4.size ?_;intro v3 wC hown3 hgr3 hat3;have hb5:Below wd.heap.size wd wC:=hb4.grown hgr3 hb4.size (fun k e=>(hown2.lt k e).1);have hH0:=hHeld;clear hHeld;refine hK.out _ _ (zm ((ze hb5)) (fun hB=>xl hB aL p0)) (fun hHeld=>?_);clear hH0 hK K
         try simp only [Act.put,List.setIfInBounds_toArray,List.set_cons_zero,List.set_cons_succ]
         have HBY:=(hHeld.1).out;clear HBY hHeld;refine HH.done (by kernel_rfl) ?_;simp only [List.drop_succ_cons,List.drop_zero];rw [HPX.out, <- HPL.out] at hown3;have hnm:=Zo hown3 (by rw [HPL.out];have:=HLN.out;omega) HPS.out;have HNM:=ze hnm;have HT5:=ze (zk.below' HT.out (hb5.mono (Nat.le_trans HB.out HW.out.size)));have HW5:=ze (HW.out.trans (hb5.mono HW.out.size));clear hb4 hb5 hown2 hown3 hgr2 hgr3 hat2 hat3 hnm HOWN HRS HBA HR1 HR2 hi0 hz0 hz1 hz2;go_wp2_with fail;go_roundw
         case rel=>exact ⟨i+1,_,by omega,by go_num,HPN,HNM,HT5,HW5⟩
         case measure=>simp [intOf];omega
  . obtain rfl:t.length=i:=by omega
    rw [List.take_length] at HIN;have HBX:=HB.out;go_wp2_with fail;go_ret;exact ⟨_,l,rfl,HIN.out,HL.out,HW.out⟩
theorem zae (L:List (List zG)) (k:Nat):(zZ (L.take k)).length<=(zZ L).length:=by
 conv=>rhs;rw [<- List.take_append_drop k L]
 unfold zZ
 rw [List.flatMap_append,List.length_append]
 omega
def UnwR (w0:World) (rv:Value) (rows:List yU) (ov iv:Value) (wr:World):Prop:=
 ∃ (i:Nat) (l:List (List UInt8)),i<=rows.length/\iv= .int .i64 i/\Hid (xt l (zZ ((rows.map (·.terms)).take i)))/\Hid (yg wr wr.heap.size ov l)/\Hid (zV wr w0.heap.size rv rows)/\Hid (Below w0.heap.size w0 wr)
theorem zd4 (A:Option Addr) (n c:Nat) (rows:List yU) (w:World) (hr:xD w (.slice A n c) rows) (hcnt:(zZ (rows.map (·.terms))).length<=50000):
 Calls Tryz.prog 106 #[.slice A n c] w (zj8 w (zZ (rows.map (·.terms)))):=by
 obtain rfl:=hr.len
 have hrb:rows.length<=100000:=by obtain ⟨_,_,_,_,_,_,h,_⟩:=hr;exact h
 have HR:=ze hr
 have HW:=ze (Below.refl w.heap.size w)
 have HCN:=ze hcnt
 have HIN:Hid (xt [] (zZ ((rows.map (·.terms)).take 0))):=ze ⟨List.Pairwise.nil,fun x=>by simp [zZ]⟩
 have HL:=ze (zkp w w.heap.size)
 clear hr hcnt
 go_enter Tryz.func106,Tryz.ntmps106
 go_wp2_with fail
 go_loopw [3,4] (UnwR w (.slice A rows.length c) rows) (fun _ iv _=>rows.length - (intOf iv).toNat)
 case atStart=>exact ⟨0,[],Nat.zero_le _,rfl,HIN,HL,HR,HW⟩
 case round=>
  clear HIN HL HR HW
  obtain ⟨i,l,hi,rfl,HIN,HL,HR,HW⟩:=hrel
  obtain ⟨AL,cl,rfl,_⟩:=id HL.out
  by_cases hil:i<rows.length
  . have hii:(i:Int)<(rows.length:Int):=by omega
    obtain ⟨ad,AT,nt,ct,eA,hbb,p0,p1,ht,hsb⟩:=HR.out.at_ hil;subst eA;have hil2:i<(rows.map (·.terms)).length:=by rw [List.length_map];exact hil
    have HNX:Hid (zZ ((rows.map (·.terms)).take (i+1))=zZ ((rows.map (·.terms)).take i) ++ rows[i].terms.map (·.name)):=ze (by
     rw [VH hil2,List.getElem_map])
    have hcnt:(zZ ((rows.map (·.terms)).take i)).length+rows[i].terms.length<=100000:=by
     have h1:=zae (rows.map (·.terms)) (i+1);rw [HNX.out,List.length_append,List.length_map] at h1;have:=HCN.out
     omega
    have hwi:=zoj AL AT l.length cl nt ct w.heap.size l _ rows[i].terms wr HL.out HIN.out ht HW.out.size hcnt;rw [<- HNX.out] at hwi;have HWI:=ze hwi;clear ht hsb hcnt hwi p1;go_wp2_with fail;refine HWI.out.mono ?_;rintro e w2 ⟨v,l2,rfl,hin2,hl2,hb2⟩;have hb3:=hb2.mono HW.out.size;have HR2:=ze (zV.below' HR.out hb3);have HW2:=ze (HW.out.trans hb3);have HIN2:=ze hin2;have HL2:=ze hl2;clear hb2 hb3 hin2 hl2 HWI p0 hbb;go_wp2_with fail;go_roundw
    case rel=>exact ⟨i+1,l2,by omega,by go_num,HIN2,HL2,HR2,HW2⟩
    case measure=>simp [intOf];omega
  . obtain rfl:rows.length=i:=by omega
    rw [List.take_of_length_le (by rw [List.length_map];exact Nat.le_refl _)] at HIN;go_wp2_with fail;go_ret;exact ⟨_,l,rfl,HIN.out,HL.out,HW.out⟩
def RckR (w0:World) (rv:Value) (rows:List yU) (iv:Value) (wr:World):Prop:=
 ∃ i:Nat,i<=rows.length/\iv= .int .i64 i/\Hid (∀ j,j<i->yS (rows.getD j default)=0)/\Hid (zV wr w0.heap.size rv rows)/\Hid (Below w0.heap.size w0 wr)
theorem zlw (A:Option Addr) (n c:Nat) (rows:List yU) (w:World) (hr:xD w (.slice A n c) rows) (hcnt:rows.length<=800->(zZ (rows.map (·.terms))).length<=50000):
 Calls Tryz.prog 50 #[.slice A n c] w (Vc w (.int .i64 (yM rows))):=by
 obtain rfl:=hr.len
 have HR:=ze hr
 have HW:=ze (Below.refl w.heap.size w)
 by_cases hlen:800<rows.length
 . have d0:decide ((rows.length:Int)>800)=true:=by rw [decide_eq_true_iff];omega
   have HE:=ze (VJ hlen);clear hr hcnt
   go_enter Tryz.func50,Tryz.ntmps50
   go_wp2_with fail;go_ret;exact ⟨by rw [HE.out];rfl,HW.out⟩
 have d0:decide ((rows.length:Int)>800)=false:=by rw [decide_eq_false_iff_not];omega
 have HL:=ze hlen
 have HCN:=ze (hcnt (by omega))
 clear hr hcnt
 go_enter Tryz.func50,Tryz.ntmps50
 go_wp2_with fail
 go_loopw [3] (RckR w (.slice A rows.length c) rows) (fun iv _=>rows.length - (intOf iv).toNat)
 case atStart=>exact ⟨0,Nat.zero_le _,rfl,(fun j h=>by omega),HR,HW⟩
 case round=>
  clear HR HW d0
  obtain ⟨i,hi,rfl,HJ,HR,HW⟩:=hrel
  by_cases hil:i<rows.length
  . have hii:(i:Int)<(rows.length:Int):=by omega
    obtain ⟨ad,AT,nt,ct,eA,hbb,p0,p1,ht,hsb⟩:=HR.out.at_ hil;subst eA;have hrow:=zn2 AT nt ct rows[i] wr (ht.more HW.out.size) hsb;have hgd:rows.getD i default=rows[i]:=by simp [List.getD,List.getElem?_eq_getElem hil]
    have HGD:=ze hgd;have HRW:=ze hrow;clear ht hsb hrow hgd
    by_cases hre:yS rows[i]=0
    . rw [hre] at HRW
      have HJ2:Hid (∀ j,j<i+1->yS (rows.getD j default)=0):=by
       intro j hj
       by_cases e:j=i
       . subst e;rw [HGD.out];exact hre
       . exact HJ.out j (by omega)
      clear hre;go_wp2_with fail;refine HRW.out.mono ?_;rintro e w3 ⟨rfl,hb2⟩;have hb3:=hb2.mono HW.out.size;have HR2:=ze (zV.below' HR.out hb3);have HW2:=ze (HW.out.trans hb3);clear hb2 hb3 HRW p0 p1 hbb;go_wp2_with fail;go_roundw
      case rel=>exact ⟨i+1,by omega,by go_num,HJ2,HR2,HW2⟩
      case measure=>simp [intOf];omega
    . have HER:Hid (yM rows=yS rows[i]):=by
       have:=zax HL.out hil HJ.out (by rw [HGD.out];exact hre);rw [HGD.out] at this;exact this
      obtain ⟨z,hz⟩:∃ z,yS rows[i]=z:=⟨_,rfl⟩;rw [hz] at HRW HER hre;have hzb:(z == 0)=false:=beq_eq_false_iff_ne.2 hre;clear hz hre;go_wp2_with fail;refine HRW.out.mono ?_;rintro e w3 ⟨rfl,hb2⟩;have HW2:=ze (HW.out.trans (hb2.mono HW.out.size));clear hb2 HRW p0 p1 hbb;go_wp2_with fail;go_ret;exact ⟨by rw [HER.out];rfl,HW2.out⟩
  . obtain rfl:rows.length=i:=by omega
    have hun:=zd4 A rows.length c rows wr (HR.out.more HW.out.size) HCN.out;have HUN:=ze hun;clear hun HR;go_wp2_with fail;refine HUN.out.mono ?_;rintro e w3 ⟨v,l,rfl,hin,hn,hb3⟩;have hll:l.length=(xE rows []).length:=by rw [hin.eq];rfl
    have HER:Hid (yM rows=if 80<l.length then 3 else 0):=by
     show _=_
     rw [hll];exact Xy HL.out HJ.out
    obtain ⟨A3,c3,rfl,_⟩:=hn;replace HW:=eb_ HW hb3;clear hb3 HUN hin hll HJ HCN
    by_cases h8:80<l.length
    . rw [if_pos h8] at HER
      have d8:(80:Int)<(l.length:Int):=by omega
      clear h8;go_wp2_with fail;go_ret;exact ⟨by rw [HER.out];rfl,HW.out⟩
    . rw [if_neg h8] at HER
      have d8:¬ (80:Int)<(l.length:Int):=by omega
      clear h8;go_wp2_with fail;go_ret;exact ⟨by rw [HER.out];rfl,HW.out⟩
theorem zm7 (x y:Rat):decide ((x - y).num.sign>0)=decide (y<x):=by rw [zkr];exact zhm x y
def FstR (w0:World) (rows:List yU) (p:List zG) (kv:Value) (wr:World):Prop:=
 ∃ k:Nat,k<=rows.length/\kv= .int .i64 k/\Hid (∀ j,j<k->Yg p rows j=false)/\Hid (Below w0.heap.size w0 wr)
theorem zlp (A AP:Option Addr) (n c np cp:Nat) (rows:List yU) (p:List zG) (w:World) (hr:xD w (.slice A n c) rows) (hp:ya w (.slice AP np cp) p) (ho:∀ k,k<rows.length->zbl p (rows.getD k default)):
 Calls Tryz.prog 51 #[.slice A n c,.slice AP np cp] w (Vc w (.int .i64 (Xl rows.length (Yg p rows)))):=by
 obtain rfl:=hr.len
 have hrl:rows.length<=100000:=by obtain ⟨_,_,_,_,_,_,h,_⟩:=hr;exact h
 have HR0:=ze hr
 have HP0:=ze hp
 have HW:=ze (Below.refl w.heap.size w)
 have HO:=ze ho
 clear hr hp ho
 go_enter Tryz.func51,Tryz.ntmps51
 go_wp2_with fail
 go_loopw [5] (FstR w rows p) (fun kv _=>rows.length - (intOf kv).toNat)
 case atStart=>exact ⟨0,Nat.zero_le _,rfl,ze (fun j h=>by omega),HW⟩
 case round=>
  clear HW
  obtain ⟨k,hk,rfl,HJ,HW⟩:=hrel
  by_cases hkl:k<rows.length
  . have hki:(k:Int)<(rows.length:Int):=by omega
    obtain ⟨ad,AT,nt,ct,eA,hbb,p0,p1,ht,hsb⟩:=(zV.below' HR0.out HW.out).at_ hkl;subst eA;have hgd:rows.getD k default=rows[k]:=by simp [List.getD,List.getElem?_eq_getElem hkl]
    have hok:=HO.out k hkl;rw [hgd] at hok;obtain ⟨hbq,_,hnl⟩:=hok.rlen;have hmu:=fun w=>Yv rows[k].bound (XS rows[k]) w hsb hbq
    have HMU:=ze hmu;have HNB:=ze hnl;have HNT:=ze (hok.sum.nlen (Nat.le_refl _));have HSO:=ze hok.sum;have HTM:=ze ht;have aL:ad.block<wr.heap.size:=Nat.lt_of_lt_of_le hbb HW.out.size;have hba:Yg p rows k=zb6 p rows[k]:=by unfold Yg;rw [hgd]
    obtain ⟨z,hz⟩:∃ z,(Vi p rows[k].terms rows[k].terms.length - XS rows[k]).num.sign=z:=⟨_,rfl⟩;have hbz:Yg p rows k=decide (z>0):=by rw [hba, <- hz,zm7];rfl
    have HZ:=ze hz;have HBZ:=ze hbz;clear ht hsb hgd hok hbq hnl hmu hbb hba hz hbz
    go_upto_region 4 with fail
    refine yA (S:=fun w' =>Hid (Below wr.heap.size wr w')/\w'.cell? (ad.add (k*2))=some (.slice AT nt ct)/\w'.cell? ⟨(ad.add (k*2)).block,(ad.add (k*2)).off+1,none⟩=some (str rows[k].bound)) 14 (by kernel_rfl) (by kernel_rfl) (zm (zv wr) (fun hB=>⟨xl hB aL p0,X9 hB aL p1⟩)) (fun hHeld=>?_);refine HH.tk 0 ?_;refine HH.tk 1 ?_;refine HH.tk 2 ?_;refine HH.tk 3 ?_;refine HH.tk 4 ?_;refine HH.tk 5 ?_;refine HH.tk 7 ?_;refine HH.tk 8 ?_;refine HH.tk 9 ?_;refine HH.tk 10 ?_;refine HH.tk 11 ?_;refine HH.rd 6 (fun K hK=>?_)
    go_simp
    go_at_call 48;have hbd:=(zv wr).out;replace HTM:=ze (zk.below' HTM.out (hbd.mono HW.out.size));replace HW:=eb_ HW hbd;clear hbd;refine (zd9 _ _ _ _ _ _ w.heap.size rows[k].terms p _ HTM.out (zk.below' HP0.out HW.out) HW.out.size HSO.out).mono ?_;rintro e w4 ⟨v4,rfl,hv4,hb4⟩;replace HW:=eb_ HW hb4;have HV4:=ze hv4;have hH0:=hHeld;clear hHeld;refine hK.out _ _ (zm (zt hb4 (zv wr)) (fun hB=>⟨xl hB aL p0,X9 hB aL p1⟩)) (fun hHeld=>?_);clear hH0 hK K
    try simp only [Act.put,List.setIfInBounds_toArray,List.set_cons_zero,List.set_cons_succ]
    clear hb4 hv4;refine HH.rd 12 (fun K hK=>?_)
    go_simp
    go_at_call 60;refine (HMU.out _).mono ?_;rintro e w5 ⟨v5,rfl,hv5,hb5⟩;replace HV4:=ze (HV4.out.below hb5);replace HW:=eb_ HW hb5;have HV5:=ze hv5;have hH0:=hHeld;clear hHeld;refine hK.out _ _ (zm (zt hb5 hH0.1) (fun hB=>⟨xl hB aL p0,X9 hB aL p1⟩)) (fun hHeld=>?_);clear hH0 hK K
    try simp only [Act.put,List.setIfInBounds_toArray,List.set_cons_zero,List.set_cons_succ]
    clear hb5 hv5;refine HH.rd 13 (fun K hK=>?_)
    go_simp
    go_at_call 107;refine (zc5 _ _ _ _ _ HV4.out HV5.out HNT.out HNB.out).mono ?_;rintro e w6 ⟨rfl,hb6⟩;rw [HZ.out];replace HW:=eb_ HW hb6;have hH0:=hHeld;clear hHeld;refine hK.out _ _ (zm (zt hb6 hH0.1) (fun hB=>⟨xl hB aL p0,X9 hB aL p1⟩)) (fun hHeld=>?_);clear hH0 hK K
    try simp only [Act.put,List.setIfInBounds_toArray,List.set_cons_zero,List.set_cons_succ]
    clear hb6;have HBY:=(hHeld.1).out;clear HBY hHeld;refine HH.done (by kernel_rfl) ?_;simp only [List.drop_succ_cons,List.drop_zero];clear p0 p1 aL HV4 HV5 HTM HMU HSO HNT HNB HZ
    by_cases hz0:z>0
    . have d0:decide (0<z)=true:=decide_eq_true hz0
      have HF:Hid (Xl rows.length (Yg p rows)=k):=ze (zhc hkl (by rw [HBZ.out];exact d0) HJ.out);clear hz0 HBZ;go_wp2_with fail;go_ret;exact ⟨by rw [HF.out];rfl,HW.out⟩
    . have d0:decide (0<z)=false:=decide_eq_false hz0
      have HJ2:Hid (∀ j,j<k+1->Yg p rows j=false):=ze (fun j hj=>by
       by_cases e:j=k
       . subst e;rw [HBZ.out];exact d0
       . exact HJ.out j (by omega))
      clear hz0 HBZ;go_wp2_with fail;go_roundw
      case rel=>exact ⟨k+1,by omega,by go_num,HJ2,HW⟩
      case measure=>simp [intOf];omega
  . obtain rfl:rows.length=k:=by omega
    have HF:Hid (Xl rows.length (Yg p rows)= -1):=ze (zb5 HJ.out);go_wp2_with fail;go_ret;exact ⟨by rw [HF.out];rfl,HW.out⟩
theorem zmb (A AP:Option Addr) (n c np cp:Nat) (rows:List yU) (p:List zG) (w:World) (hr:xD w (.slice A n c) rows) (hp:ya w (.slice AP np cp) p) (hcnt:rows.length<=800->(zZ (rows.map (·.terms))).length<=50000)
 (ho:yM rows=0->yd p=0->∀ k,k<rows.length->zbl p (rows.getD k default)):
 Calls Tryz.prog 17 #[.slice A n c,.slice AP np cp] w (zoh w (Zy rows p)):=by
 have h1:=zlw A n c rows w hr hcnt
 have HT:=ze hr
 have HP:=ze hp
 have HO:=ze ho
 by_cases h0:yM rows=0
 . rw [h0] at h1
   have H1:=ze h1;have H0:=ze h0;clear hr hp ho h1 h0 hcnt
   go_enter Tryz.func17,Tryz.ntmps17
   go_wp2_with fail;refine H1.out.mono ?_;rintro e w1 ⟨rfl,hb1⟩;replace HT:=ze ((zV.below HT.out hb1).more hb1.size);replace HP:=ze ((zk.below HP.out hb1).more hb1.size);have HW:=ze hb1;clear hb1 H1;have h2:=zef AP np cp p w1 HP.out
   by_cases h3:yd p=0
   . rw [h3] at h2
     have H2:=ze h2;have HSE:Hid (Zy rows p=(Xl rows.length (Yg p rows),0)):=ze (by unfold Zy;rw [if_neg (by rw [H0.out];exact fun h=>h rfl),if_neg (by rw [h3];exact fun h=>h rfl)]);have HOK:=ze (HO.out H0.out h3);clear h2 h3;go_wp2_with fail;refine H2.out.mono ?_;rintro e w2 ⟨rfl,hb2⟩;replace HT:=ze ((zV.below HT.out hb2).more hb2.size);replace HP:=ze ((zk.below HP.out hb2).more hb2.size);replace HW:=eb_ HW hb2;clear hb2 H2;have h4:=zlp A AP n c np cp rows p w2 HT.out HP.out HOK.out;obtain ⟨z,hz⟩:∃ z,Xl rows.length (Yg p rows)=z:=⟨_,rfl⟩;rw [hz] at h4 HSE;have H4:=ze h4;clear h4 hz;go_wp2_with fail;refine H4.out.mono ?_;rintro e w3 ⟨rfl,hb3⟩;replace HW:=eb_ HW hb3;clear hb3 H4;go_wp2_with fail;go_ret2;rw [HSE.out];exact ⟨rfl,HW.out⟩
   . have HSE:Hid (Zy rows p=(0,yd p)):=ze (by unfold Zy;rw [if_neg (by rw [H0.out];exact fun h=>h rfl),if_pos h3])
     obtain ⟨z,hz⟩:∃ z,yd p=z:=⟨_,rfl⟩;rw [hz] at h2 h3 HSE;have H2:=ze h2;have hzb:(z == 0)=false:=beq_eq_false_iff_ne.2 h3;clear h2 h3 hz HO;go_wp2_with fail;refine H2.out.mono ?_;rintro e w2 ⟨rfl,hb2⟩;replace HW:=eb_ HW hb2;clear hb2 H2;go_wp2_with fail;go_ret2;rw [HSE.out];exact ⟨rfl,HW.out⟩
 . have HSE:Hid (Zy rows p=(0,yM rows)):=ze (by unfold Zy;rw [if_pos h0])
   obtain ⟨z,hz⟩:∃ z,yM rows=z:=⟨_,rfl⟩;rw [hz] at h1 h0 HSE;have H1:=ze h1;have hzb:(z == 0)=false:=beq_eq_false_iff_ne.2 h0;clear hr hp ho h1 h0 hz HO hcnt
   go_enter Tryz.func17,Tryz.ntmps17
   go_wp2_with fail;refine H1.out.mono ?_;rintro e w1 ⟨rfl,hb1⟩;have HW:=ze hb1;clear hb1 H1;go_wp2_with fail;go_ret2;rw [HSE.out];exact ⟨rfl,HW.out⟩
end Go.Proofs.YtkmcmmcencdcpaaGreatDoor
