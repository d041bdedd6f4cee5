/- Parts of the proof: memory, numbers, walks of the functions that are called. -/
import Derived.Test.YtacfcmdlgebhgaaGreatMg33
set_option linter.unusedVariables false
set_option linter.unusedSimpArgs false
set_option maxHeartbeats 32000000
namespace Go.Proofs.YtacfcmdlgebhgaaGreat
open Go.RowKit Go.Deep
attribute [local go_sem ↓] Go.wp_at_zero Go.wp_at_succ
section
variable {n:Net} {a b:Int} {gs:List (List UInt8)}
theorem zdt (h:xj n a b gs n.pipes.length≠0):VL n a b gs=xj n a b gs n.pipes.length:=by unfold VL;rw [if_pos h]
open Classical in
theorem zux (h:xj n a b gs n.pipes.length=0) (u:Bool) (hu:u=true↔Yb n.nodes.length n.pipes.length n.pf n.pt a.toNat b.toNat (zl gs)):VL n a b gs=if u=true then 0 else 8:=by
 unfold VL
 rw [if_neg (by simp [h])]
 cases u with
 | true=>rw [if_pos (hu.1 rfl)];rfl
 | false=>rw [if_neg (fun h=>by cases hu.2 h)];rfl
end
set_option maxRecDepth 100000 in
theorem zqu (vn vg:Value) (n:Net) (a b:Int) (gs:List (List UInt8)) (w:World) (hn:Zw w vn n) (hg:yY w vg gs) (hsz:n.err=0->n.nodes.length<=6/\n.pipes.length<=9)
 (hcom:xj n a b gs n.pipes.length=0->xB n.pipes.length (zl gs) 13000):
 Calls Tryz.prog 12 #[vn,.int .i64 a,.int .i64 b,vg] w (znc n gs (VL n a b gs) w):=by
 have HNET:=ze hn
 have HGN:=ze hg
 have HSZ:=ze hsz
 have HCM:=ze hcom
 obtain ⟨A0,k0,c0,A1,k1,c1,A2,k2,c2,A3,k3,c3,rfl,hn0,hn1,hn2,hn3⟩:=hn
 obtain ⟨Ag,cg,rfl,_⟩:=hg
 have hk0:k0=n.nodes.length:=by obtain ⟨A',c',e,_⟩:=hn0;injection e
 have hk1:k1=n.pipes.length:=by obtain ⟨A',c',e,_⟩:=hn1;injection e
 have hck:=fun w' (h:Below w.heap.size w w')=>zdy (.agg #[.slice A0 k0 c0,.slice A1 k1 c1,.slice A2 k2 c2,.slice A3 k3 c3]) n w' (HNET.out.below h)
 have hap:=fun w' (h:Below w.heap.size w w') (h0:n.err=0)=>zej (.agg #[.slice A0 k0 c0,.slice A1 k1 c1,.slice A2 k2 c2,.slice A3 k3 c3]) n a b w' (HNET.out.below h) h0
 have hnm:=fun w' (h:Below w.heap.size w w')=>zdx (.slice Ag gs.length cg) gs w' (HGN.out.below h)
 obtain ⟨ev,HEV⟩:∃ ev,Hid (n.err=ev):=⟨_,ze rfl⟩
 obtain ⟨zv,HZV⟩:∃ zv,Hid (xY n a b=zv):=⟨_,ze rfl⟩
 obtain ⟨y,HY⟩:∃ y,Hid (VL n a b gs=y):=⟨_,ze rfl⟩
 rw [HY.out]
 rw [HEV.out] at hck
 rw [HZV.out] at hap
 have HCK:=ze hck
 have HAP:=ze hap
 have HNM:=ze hnm
 have HP1:=ze hn1
 have HK0:=ze hk0
 have HK1:=ze hk1
 have HW:=ze (zg w (.cells #[.slice A0 k0 c0,.slice A1 k1 c1,.slice A2 k2 c2,.slice A3 k3 c3] 26))
 have HK:=ze (Blk.new w 26 #[.slice A0 k0 c0,.slice A1 k1 c1,.slice A2 k2 c2,.slice A3 k3 c3])
 clear hn0 hn1 hn2 hn3 hck hap hnm hsz hcom hk0 hk1
 obtain ⟨r0,r1,r2,r3,rL⟩:=yG HK.out
 go_enter Tryz.func12,Tryz.ntmps12
 go_wp2_with fail
 refine (HCK.out _ HW.out).mono ?_
 rintro e WN ⟨rfl,hbB⟩
 try clear r0 r1 r2 r3 rL
 replace HK:=kb_ HK hbB
 replace HW:=eb_ HW hbB
 clear hbB
 obtain ⟨r0,r1,r2,r3,rL⟩:=yG HK.out
 by_cases h0:ev=0
 rotate_left
 . have hI:(ev != 0)=true:=by rw [bne_iff_ne];exact h0
   have HNE:=ze h0;have HF:Hid (y=ev):=ze (by rw [<- HY.out,zdt (by rw [zdp (by rw [HEV.out];exact h0),HEV.out];exact h0),zdp (by rw [HEV.out];exact h0),HEV.out]);clear h0;go_wp2_with fail;go_ret2;have h9:=HF.out;subst h9;exact ⟨HW.out,.inl ⟨HNE.out,rfl⟩⟩
 subst h0
 have HN0:Hid (n.err=0):=ze (by rw [HEV.out]);go_wp2_with fail;refine (HAP.out _ HW.out HN0.out).mono ?_;rintro e WN ⟨rfl,hbB⟩
 try clear r0 r1 r2 r3 rL
 replace HK:=kb_ HK hbB;replace HW:=eb_ HW hbB;clear hbB;obtain ⟨r0,r1,r2,r3,rL⟩:=yG HK.out
 by_cases hz0:zv=0
 rotate_left
 . have hI:(zv != 0)=true:=by rw [bne_iff_ne];exact hz0
   have HNE:=ze hz0;have HF:Hid (y=zv):=ze (by rw [<- HY.out,zdt (by rw [zds HN0.out (by rw [HZV.out];exact hz0),HZV.out];exact hz0),zds HN0.out (by rw [HZV.out];exact hz0),HZV.out]);clear hz0;go_wp2_with fail;go_ret2;have h9:=HF.out;subst h9;exact ⟨HW.out,.inl ⟨HNE.out,rfl⟩⟩
 subst hz0
 have HE0:Hid (xY n a b=0):=ze (by rw [HZV.out])
 by_cases hlen:gs.length=k1
 rotate_left
 . have hI:((gs.length:Int) != (k1:Int))=true:=by rw [bne_iff_ne];omega
   have HLN:Hid ((gs.length:Int)≠(n.pipes.length:Nat)):=ze (by have:=HK0.out;have:=HK1.out;omega);have HF:Hid (y=1):=ze (by rw [<- HY.out,zdt (by rw [zdl HN0.out HE0.out HLN.out];decide),zdl HN0.out HE0.out HLN.out]);clear hlen;go_wp2_with fail;go_ret2;have h9:=HF.out;subst h9;exact ⟨HW.out,.inl ⟨by decide,rfl⟩⟩
 have HLEN:Hid (gs.length=n.pipes.length):=ze (by have:=HK0.out;have:=HK1.out;omega)
 have hI:((gs.length:Int) != (k1:Int))=false:=by rw [bne_eq_false_iff_eq];omega
 clear hlen;go_wp2_with fail;refine (HNM.out _ HW.out).mono ?_;rintro e w5 ⟨hb5,hor⟩;clear r0 r1 r2 r3 rL hI;replace HK:=kb_ HK hb5;replace HW:=eb_ HW hb5;clear hb5
 rcases hor with ⟨hbad,rfl⟩ | ⟨hall,v5,rfl,hv5⟩
 . have HF:Hid (y=4):=ze (by rw [<- HY.out,zdt (by rw [zdh HN0.out HE0.out (by have:=HLEN.out;omega) hbad];decide),zdh HN0.out HE0.out (by have:=HLEN.out;omega) hbad])
   clear hbad;go_wp2_with fail;go_ret2;have h9:=HF.out;subst h9;exact ⟨HW.out,.inl ⟨by decide,rfl⟩⟩
 . have HG0:Hid (xj n a b gs n.pipes.length=0):=ze (znu HN0.out HE0.out (by have:=HLEN.out;omega) hall)
   have HV:=ze hv5;clear hall hv5;obtain ⟨AV,capV,hve,_⟩:=HV.out;subst hve;have HGS:=ze (Vr HG0.out).2.2.2;have HCO:=ze (HCM.out HG0.out);have HEN:=ze (Net.err_zero HN0.out).1.1.1.ends;have HP3:=ze (Net.err_zero HN0.out).1.1.1;have HNP:=ze (HSZ.out HN0.out).2;have hk9:k1<=9:=by have:=HNP.out;have:=HK1.out;omega
   have he:=Yj HE0.out;obtain ⟨an,ha⟩:∃ an:Nat,a=(an:Int):=⟨a.toNat,by omega⟩;obtain ⟨bn,hb⟩:∃ bn:Nat,b=(bn:Int):=⟨b.toNat,by omega⟩;subst ha;subst hb;have HE:=ze he;clear he HCK HAP HNM HCM;obtain ⟨u,hu⟩:∃ u:Bool,(u=true↔Yb n.nodes.length n.pipes.length n.pf n.pt an bn (zl gs)):=⟨@decide (Yb n.nodes.length n.pipes.length n.pf n.pt an bn (zl gs)) (Classical.propDecidable _),@decide_eq_true_iff _ (Classical.propDecidable _)⟩;have HY2:Hid (y=if u=true then 0 else 8):=ze (by rw [<- HY.out];exact zux HG0.out u hu);have HU:=ze hu;have hun:=fun w' (h:Below w5.heap.size w5 w')=>zu5 (.agg #[.slice A0 k0 c0,.slice A1 k1 c1,.slice A2 k2 c2,.slice A3 k3 c3]) (.slice AV gs.length capV) n an bn (zl gs) w' u (HNET.out.below (ext HW.out h)) (by have:=HV.out.below h;rw [HLEN.out] at this |-;exact this) HEN.out (fun i hi=>Net.pf_ne HP3.out hi) (by have:=HE.out;omega) HCO.out HNP.out (by have:=(HSZ.out HN0.out).1;omega) hu
   have HUN:=ze hun;have HV5:=HV;have HBQ:=ze (zP w5);clear HY hu hun;obtain ⟨r0,r1,r2,r3,rL⟩:=yG HK.out;go_wp2_with fail;refine (HUN.out _ HBQ.out).mono ?_;rintro e WN ⟨rfl,hbB⟩
   try clear r0 r1 r2 r3 rL
   replace HK:=kb_ HK hbB;replace HV:=ze (xT.below HV.out hbB);replace HBQ:=eb_ HBQ hbB;replace HW:=eb_ HW hbB;clear hbB;obtain ⟨r0,r1,r2,r3,rL⟩:=yG HK.out;clear HUN HBQ
   cases hub:u with
   | false=>
     subst hub;have HF:Hid (y=8):=ze (by rw [HY2.out];rfl);clear HY2;go_wp2_with fail;go_ret2;have h9:=HF.out;subst h9;exact ⟨HW.out,.inl ⟨by decide,rfl⟩⟩
   | true=>
     subst hub;have HF:Hid (y=0):=ze (by rw [HY2.out];rfl);have HUF:=ze (HU.out.1 rfl);clear HY2 HU;obtain ⟨S,HT⟩:∃ S,Hid (zxv n.pipes.length (Zl n) (zl gs) S (13000+13000+108)):=zsh (fun i hi=>(Net.bounds HP3.out hi).2.2.2.1) (fun i hi=>(Net.bounds HP3.out hi).2.2.2.2.1) HNP.out HCO.out;go_wp2_with fail;refine (zch _).mono ?_;rintro e wb ⟨vb,rfl,hvb,hbb⟩;have HVB:=ze hvb;clear r0 r1 r2 r3 rL hvb;replace HK:=kb_ HK hbb;replace HV:=ze (xT.below HV.out hbb);replace HW:=eb_ HW hbb;obtain ⟨ng,X,n1,c8,Y,n2,c9',rfl,hv0⟩:=HVB.out;clear hv0 hbb;have HFX:Hid (zas (wb.alloc (.cells #[.bool ng,.slice X n1 c8,.slice Y n2 c9'] 63)) wb.heap.size 0):=⟨_,_,_,_,_,_,_,Blk.new _ _ _,HVB.out.below (zg wb _)⟩;go_wp2_with fail
     go_loopw [15] (zun gs.length (fun i=>Zv i (Zl n) (zl gs)) wb.heap.size wb) (fun iv _=>gs.length - (intOf iv).toNat)
     case atStart=>exact ⟨0,Nat.zero_le _,rfl,HFX,zg wb _⟩
     case round=>
      clear HFX HVB;obtain ⟨i,hi,rfl,HFB,HB⟩:=hrel;have HWR:=ze (ext HW.out HB.out);have HKR:=ze (HK.out.below HB.out HK.out.lt);obtain ⟨r0,r1,r2,r3,rL⟩:=yG HKR.out;clear HKR;have hlk:gs.length=n.pipes.length:=HLEN.out
      by_cases hil:i<gs.length
      rotate_left
      . obtain rfl:gs.length=i:=by omega
        obtain ⟨nf,Xf,xf,yf,Zf,zf,tf,hkf,hrf⟩:=HFB.out;have e0:=hkf.cell 0;have e1:=hkf.cell 1;have e2:=hkf.cell 2;simp at e0 e1 e2;have eL:=hkf.lt;have HRF:Hid (xu wr (.agg #[.bool nf,.slice Xf xf yf,.slice Zf zf tf]) (Zv n.pipes.length (Zl n) (zl gs))):=ze (by rw [<- hlk];exact hrf)
        have hpos:Zv n.pipes.length (Zl n) (zl gs)≠0:=by
         have h1:=znv (fun i hi=>(Net.bounds HP3.out hi).2.2.2.2.1) n.pipes.length (Nat.le_refl _) (Yb.some HUF.out (by have:=HE.out;omega))
         grind
        have dl:=HT.out.sum HNP.out (n:=n.pipes.length) (Nat.le_refl _);have HD1:=ze (yl (q:=1) (Dz.short zcy (by omega)));have HD2:=ze (yl (Dz.short dl (by omega)));have HSL:=ze (Dz.short (dl.inv hpos) (by omega:_<50000));have HPO:=ze hpos;clear hkf hrf hpos dl r0 r1 r2 r3 rL hlk
        go_upto_region 19 with fail
        refine yh (S:=fun w' =>Hid (Below wr.heap.size wr w')/\w'.cell? ⟨wb.heap.size,0,none⟩=some (.bool nf)/\w'.cell? ⟨wb.heap.size,1,none⟩=some (.slice Xf xf yf)/\w'.cell? ⟨wb.heap.size,2,none⟩=some (.slice Zf zf tf)) 6 (by kernel_rfl) (by kernel_rfl) (zx (z8 wr) (fun hB=>⟨zk hB eL e0,zk hB eL e1,zk hB eL e2⟩)) (fun hHeld=>?_);refine HH.take 1 (oi:=_) (v:=?_) rfl (by kernel_rfl) (by kernel_rfl) (by kernel_rfl) (fun _ _ _ h=>h) (Or.inl ⟨by rfl,?_⟩) ‹_› ?_;rotate_left
        . (intro w9 hSw;(try dsimp only at hSw);go_split_ands;go_simp;try with_reducible rfl)
        try simp only [Act.put,List.setIfInBounds_toArray,List.set_cons_zero,List.set_cons_succ]
        refine HH.ready (rs:=[0]) (by kernel_rfl) (by simp) (by kernel_rfl) ?_;refine zT.cons (o:=_) rfl (fun K hK=>?_) zT.nil
        go_simp
        go_at_call 30;refine (zb0 _).mono ?_;rintro e wo ⟨vo,rfl,hvo,hbo⟩;have HVO:=ze hvo;clear hvo;have hH0:=hHeld;clear hHeld;refine hK.out _ _ (zx (zu hbo (z8 wr)) (fun hB=>⟨zk hB eL e0,zk hB eL e1,zk hB eL e2⟩)) (fun hHeld=>?_);clear hH0 hK K
        try simp only [Act.put,List.setIfInBounds_toArray,List.set_cons_zero,List.set_cons_succ]
        refine HH.ready (rs:=[2]) (by kernel_rfl) (by simp) (by kernel_rfl) ?_;refine zT.cons (o:=_) rfl (fun K hK=>?_) zT.nil
        go_simp
        go_at_call 43;refine (Yh _ _ _ _ _ HVO.out (HRF.out.below hHeld.1.out) HD1.out HD2.out HPO.out).mono ?_;rintro e wu ⟨vu,rfl,hvu,hbu⟩;have HVU:=ze hvu;clear hvu;have hH0:=hHeld;clear hHeld;refine hK.out _ _ (zx (zu hbu hH0.1) (fun hB=>⟨zk hB eL e0,zk hB eL e1,zk hB eL e2⟩)) (fun hHeld=>?_);clear hH0 hK K
        try simp only [Act.put,List.setIfInBounds_toArray,List.set_cons_zero,List.set_cons_succ]
        refine HH.ready (rs:=[3]) (by kernel_rfl) (by simp) (by kernel_rfl) ?_;refine zT.cons (o:=_) rfl (fun K hK=>?_) zT.nil
        go_simp
        go_at_call 40;refine (zng _ _ _ HVU.out HSL.out).mono ?_;rintro e w8 ⟨rfl,hb8⟩;have hH0:=hHeld;clear hHeld;refine hK.out _ _ (zx (zu hb8 hH0.1) (fun hB=>⟨zk hB eL e0,zk hB eL e1,zk hB eL e2⟩)) (fun hHeld=>?_);clear hH0 hK K
        try simp only [Act.put,List.setIfInBounds_toArray,List.set_cons_zero,List.set_cons_succ]
        refine HH.take 4 (oi:=_) (v:=?_) rfl (by kernel_rfl) (by kernel_rfl) (by kernel_rfl) (fun _ _ _ h=>h) (Or.inl ⟨by rfl,?_⟩) ‹_› ?_;rotate_left
        . (intro w9 hSw;(try dsimp only at hSw);go_split_ands;go_simp;try with_reducible rfl)
        try simp only [Act.put,List.setIfInBounds_toArray,List.set_cons_zero,List.set_cons_succ]
        refine HH.take 5 (oi:=_) (v:=?_) rfl (by kernel_rfl) (by kernel_rfl) (by kernel_rfl) (fun _ _ _ h=>h) (Or.inl ⟨by rfl,?_⟩) ‹_› ?_;rotate_left
        . (intro w9 hSw;(try dsimp only at hSw);go_split_ands;go_simp;try with_reducible rfl)
        try simp only [Act.put,List.setIfInBounds_toArray,List.set_cons_zero,List.set_cons_succ]
        have HBY:=(hHeld.1).out;replace HB:=eb_ HB HBY;clear HBY hHeld;refine HH.done (by kernel_rfl) ?_;simp only [List.drop_succ_cons,List.drop_zero];have HW8:=ze (ext HW.out HB.out);go_wp2_with fail;go_ret2;exact ⟨HW8.out,.inr ⟨HF.out,rfl⟩⟩
      have hin:i<n.pipes.length:=by omega
      have hii:(i:Int)<(gs.length:Int):=by omega
      have hik:(i:Int)<(k1:Int):=by have:=HK1.out;omega
      obtain ⟨ad,e1,hb,p0,p1,p2,p3,p4⟩:=(HP1.out.below HWR.out).at_ hin;subst e1;have hh:=Net.bounds HP3.out hin;rw [hh.2.2.1] at p3;obtain ⟨gc,eC,lC,nc,Xc,xc,yc,Zc,zc,tc,a0,a1,a2,hrc⟩:=(HV.out.below HB.out).at_ hil;subst eC;obtain ⟨nf,Xf,xf,yf,Zf,zf,tf,hkf,hrf⟩:=HFB.out;have e0:=hkf.cell 0;have e1:=hkf.cell 1;have e2:=hkf.cell 2;simp at e0 e1 e2;have eL:=hkf.lt;have df:=zrt HCO.out hin;have HD1:=ze (yl (df.short (by omega)));have HD2:=ze (yl (Dz.short (Dz.mul df df (Nat.le_refl _)) (by omega)));have HD3:=ze (yl (Dz.short hh.2.2.2.1 (by omega)));have HD4:=ze (yl (Dz.short (HT.out.one hin) (by omega)));have HD5:=ze (yl (Dz.short (HT.out.sum HNP.out (n:=i) (by omega)) (by omega)));have HL0:Hid (Zl n i≠0):=ze (by have:=hh.2.2.2.2.1;grind);have HST:=ze (Va i (Zl n) (zl gs));have hmu:=fun w=>V5 ⟨(zh (Zl n i)).toArray⟩ (Zl n i) w (yE (yp (Dz.short hh.2.2.2.1 (by omega)))) (by rw [yy];exact yv (Dz.short hh.2.2.2.1 (by omega:12<50000)))
      have HMU:=ze hmu;have HRC:=ze hrc;have HRF:=ze hrf;clear hrc hrf hkf hmu hh df HWR hlk
      go_upto_region 18 with fail
      refine yh (S:=fun w' =>Hid (Below wr.heap.size wr w')/\w'.cell? ⟨w.heap.size,1,none⟩=some (.slice (some ad) k1 c1)/\w'.cell? ⟨(ad.add (i*5)).block,(ad.add (i*5)).off+3,none⟩=some (str (zh (Zl n i)))/\w'.cell? ⟨gc,i*3,none⟩=some (.bool nc)/\w'.cell? ⟨gc,i*3+1,none⟩=some (.slice Xc xc yc)/\w'.cell? ⟨gc,i*3+2,none⟩=some (.slice Zc zc tc)/\w'.cell? ⟨wb.heap.size,0,none⟩=some (.bool nf)/\w'.cell? ⟨wb.heap.size,1,none⟩=some (.slice Xf xf yf)/\w'.cell? ⟨wb.heap.size,2,none⟩=some (.slice Zf zf tf)) 19 (by kernel_rfl) (by kernel_rfl) (zx (z8 wr) (fun hB=>⟨zk hB rL r1,vI hB hb p3,zk hB lC a0,zk hB lC a1,zk hB lC a2,zk hB eL e0,zk hB eL e1,zk hB eL e2⟩)) (fun hHeld=>?_);refine HH.take 0 (oi:=_) (v:=?_) rfl (by kernel_rfl) (by kernel_rfl) (by kernel_rfl) (fun _ _ _ h=>h) (Or.inl ⟨by rfl,?_⟩) ‹_› ?_;rotate_left
      . (intro w9 hSw;(try dsimp only at hSw);go_split_ands;go_simp;try with_reducible rfl)
      try simp only [Act.put,List.setIfInBounds_toArray,List.set_cons_zero,List.set_cons_succ]
      refine HH.take 1 (oi:=_) (v:=?_) rfl (by kernel_rfl) (by kernel_rfl) (by kernel_rfl) (fun _ _ _ h=>h) (Or.inl ⟨by rfl,?_⟩) ‹_› ?_;rotate_left
      . (intro w9 hSw;(try dsimp only at hSw);go_split_ands;go_simp;try with_reducible rfl)
      try simp only [Act.put,List.setIfInBounds_toArray,List.set_cons_zero,List.set_cons_succ]
      refine HH.take 2 (oi:=_) (v:=?_) rfl (by kernel_rfl) (by kernel_rfl) (by kernel_rfl) (fun _ _ _ h=>h) (Or.inl ⟨by rfl,?_⟩) ‹_› ?_;rotate_left
      . (intro w9 hSw;(try dsimp only at hSw);go_split_ands;go_simp;try with_reducible rfl)
      try simp only [Act.put,List.setIfInBounds_toArray,List.set_cons_zero,List.set_cons_succ]
      refine HH.take 3 (oi:=_) (v:=?_) rfl (by kernel_rfl) (by kernel_rfl) (by kernel_rfl) (fun _ _ _ h=>h) (Or.inl ⟨by rfl,?_⟩) ‹_› ?_;rotate_left
      . (intro w9 hSw;(try dsimp only at hSw);go_split_ands;go_simp;try with_reducible rfl)
      try simp only [Act.put,List.setIfInBounds_toArray,List.set_cons_zero,List.set_cons_succ]
      refine HH.take 4 (oi:=_) (v:=?_) rfl (by kernel_rfl) (by kernel_rfl) (by kernel_rfl) (fun _ _ _ h=>h) (Or.inl ⟨by rfl,?_⟩) ‹_› ?_;rotate_left
      . (intro w9 hSw;(try dsimp only at hSw);go_split_ands;go_simp;try with_reducible rfl)
      try simp only [Act.put,List.setIfInBounds_toArray,List.set_cons_zero,List.set_cons_succ]
      refine HH.take 5 (oi:=_) (v:=?_) rfl (by kernel_rfl) (by kernel_rfl) (by kernel_rfl) (fun _ _ _ h=>h) (Or.inl ⟨by rfl,?_⟩) ‹_› ?_;rotate_left
      . (intro w9 hSw;(try dsimp only at hSw);go_split_ands;go_simp;try with_reducible rfl)
      try simp only [Act.put,List.setIfInBounds_toArray,List.set_cons_zero,List.set_cons_succ]
      refine HH.take 6 (oi:=_) (v:=?_) rfl (by kernel_rfl) (by kernel_rfl) (by kernel_rfl) (fun _ _ _ h=>h) (Or.inl ⟨by rfl,?_⟩) ‹_› ?_;rotate_left
      . (intro w9 hSw;(try dsimp only at hSw);go_split_ands;go_simp;try with_reducible rfl)
      try simp only [Act.put,List.setIfInBounds_toArray,List.set_cons_zero,List.set_cons_succ]
      refine HH.take 7 (oi:=_) (v:=?_) rfl (by kernel_rfl) (by kernel_rfl) (by kernel_rfl) (fun _ _ _ h=>h) (Or.inl ⟨by rfl,?_⟩) ‹_› ?_;rotate_left
      . (intro w9 hSw;(try dsimp only at hSw);go_split_ands;go_simp;try with_reducible rfl)
      try simp only [Act.put,List.setIfInBounds_toArray,List.set_cons_zero,List.set_cons_succ]
      refine HH.take 8 (oi:=_) (v:=?_) rfl (by kernel_rfl) (by kernel_rfl) (by kernel_rfl) (fun _ _ _ h=>h) (Or.inl ⟨by rfl,?_⟩) ‹_› ?_;rotate_left
      . (intro w9 hSw;(try dsimp only at hSw);go_split_ands;go_simp;try with_reducible rfl)
      try simp only [Act.put,List.setIfInBounds_toArray,List.set_cons_zero,List.set_cons_succ]
      refine HH.take 10 (oi:=_) (v:=?_) rfl (by kernel_rfl) (by kernel_rfl) (by kernel_rfl) (fun _ _ _ h=>h) (Or.inl ⟨by rfl,?_⟩) ‹_› ?_;rotate_left
      . (intro w9 hSw;(try dsimp only at hSw);go_split_ands;go_simp;try with_reducible rfl)
      try simp only [Act.put,List.setIfInBounds_toArray,List.set_cons_zero,List.set_cons_succ]
      refine HH.take 11 (oi:=_) (v:=?_) rfl (by kernel_rfl) (by kernel_rfl) (by kernel_rfl) (fun _ _ _ h=>h) (Or.inl ⟨by rfl,?_⟩) ‹_› ?_;rotate_left
      . (intro w9 hSw;(try dsimp only at hSw);go_split_ands;go_simp;try with_reducible rfl)
      try simp only [Act.put,List.setIfInBounds_toArray,List.set_cons_zero,List.set_cons_succ]
      refine HH.take 12 (oi:=_) (v:=?_) rfl (by kernel_rfl) (by kernel_rfl) (by kernel_rfl) (fun _ _ _ h=>h) (Or.inl ⟨by rfl,?_⟩) ‹_› ?_;rotate_left
      . (intro w9 hSw;(try dsimp only at hSw);go_split_ands;go_simp;try with_reducible rfl)
      try simp only [Act.put,List.setIfInBounds_toArray,List.set_cons_zero,List.set_cons_succ]
      refine HH.take 13 (oi:=_) (v:=?_) rfl (by kernel_rfl) (by kernel_rfl) (by kernel_rfl) (fun _ _ _ h=>h) (Or.inl ⟨by rfl,?_⟩) ‹_› ?_;rotate_left
      . (intro w9 hSw;(try dsimp only at hSw);go_split_ands;go_simp;try with_reducible rfl)
      try simp only [Act.put,List.setIfInBounds_toArray,List.set_cons_zero,List.set_cons_succ]
      refine HH.take 14 (oi:=_) (v:=?_) rfl (by kernel_rfl) (by kernel_rfl) (by kernel_rfl) (fun _ _ _ h=>h) (Or.inl ⟨by rfl,?_⟩) ‹_› ?_;rotate_left
      . (intro w9 hSw;(try dsimp only at hSw);go_split_ands;go_simp;try with_reducible rfl)
      try simp only [Act.put,List.setIfInBounds_toArray,List.set_cons_zero,List.set_cons_succ]
      refine HH.take 15 (oi:=_) (v:=?_) rfl (by kernel_rfl) (by kernel_rfl) (by kernel_rfl) (fun _ _ _ h=>h) (Or.inl ⟨by rfl,?_⟩) ‹_› ?_;rotate_left
      . (intro w9 hSw;(try dsimp only at hSw);go_split_ands;go_simp;try with_reducible rfl)
      try simp only [Act.put,List.setIfInBounds_toArray,List.set_cons_zero,List.set_cons_succ]
      refine HH.ready (rs:=[9]) (by kernel_rfl) (by simp) (by kernel_rfl) ?_;refine zT.cons (o:=_) rfl (fun K hK=>?_) zT.nil
      go_simp
      go_at_call 32;refine (Zp _ _ _ _ _ (HRC.out.below (z8 wr).out) (HRC.out.below (z8 wr).out) HD1.out HD1.out).mono ?_;rintro e wt ⟨vt,rfl,hvt,hbt⟩;have HVT:=ze hvt;clear hvt;have hH0:=hHeld;clear hHeld;refine hK.out _ _ (zx (zu hbt (z8 wr)) (fun hB=>⟨zk hB rL r1,vI hB hb p3,zk hB lC a0,zk hB lC a1,zk hB lC a2,zk hB eL e0,zk hB eL e1,zk hB eL e2⟩)) (fun hHeld=>?_);clear hH0 hK K
      try simp only [Act.put,List.setIfInBounds_toArray,List.set_cons_zero,List.set_cons_succ]
      refine HH.ready (rs:=[16]) (by kernel_rfl) (by simp) (by kernel_rfl) ?_;refine zT.cons (o:=_) rfl (fun K hK=>?_) zT.nil
      go_simp
      go_at_call 39;refine (HMU.out _).mono ?_;rintro e wm ⟨vm,rfl,hvm,hbm⟩;have HVM:=ze hvm;have HVT:=ze (HVT.out.below hbm);clear hvm;have hH0:=hHeld;clear hHeld;refine hK.out _ _ (zx (zu hbm hH0.1) (fun hB=>⟨zk hB rL r1,vI hB hb p3,zk hB lC a0,zk hB lC a1,zk hB lC a2,zk hB eL e0,zk hB eL e1,zk hB eL e2⟩)) (fun hHeld=>?_);clear hH0 hK K
      try simp only [Act.put,List.setIfInBounds_toArray,List.set_cons_zero,List.set_cons_succ]
      refine HH.ready (rs:=[17]) (by kernel_rfl) (by simp) (by kernel_rfl) ?_;refine zT.cons (o:=_) rfl (fun K hK=>?_) zT.nil
      go_simp
      go_at_call 43;refine (Yh _ _ _ _ _ HVT.out HVM.out HD2.out HD3.out HL0.out).mono ?_;rintro e wu ⟨vu,rfl,hvu,hbu⟩;have HVU:=ze hvu;clear hvu;have hH0:=hHeld;clear hHeld;refine hK.out _ _ (zx (zu hbu hH0.1) (fun hB=>⟨zk hB rL r1,vI hB hb p3,zk hB lC a0,zk hB lC a1,zk hB lC a2,zk hB eL e0,zk hB eL e1,zk hB eL e2⟩)) (fun hHeld=>?_);clear hH0 hK K
      try simp only [Act.put,List.setIfInBounds_toArray,List.set_cons_zero,List.set_cons_succ]
      refine HH.ready (rs:=[18]) (by kernel_rfl) (by simp) (by kernel_rfl) ?_;refine zT.cons (o:=_) rfl (fun K hK=>?_) zT.nil
      go_simp
      go_at_call 31;refine (vz _ _ _ _ _ (HRF.out.below hHeld.1.out) HVU.out HD5.out HD4.out).mono ?_;rintro e w8 ⟨v8,rfl,hv8,hb8⟩;have HV8:=ze hv8;clear hv8;have hH0:=hHeld;clear hHeld;refine hK.out _ _ (zx (zu hb8 hH0.1) (fun hB=>⟨zk hB rL r1,vI hB hb p3,zk hB lC a0,zk hB lC a1,zk hB lC a2,zk hB eL e0,zk hB eL e1,zk hB eL e2⟩)) (fun hHeld=>?_);clear hH0 hK K
      try simp only [Act.put,List.setIfInBounds_toArray,List.set_cons_zero,List.set_cons_succ]
      have HBY:=(hHeld.1).out;replace HFB:=ze (zas.below HFB.out HBY);replace HB:=eb_ HB HBY;clear HBY hHeld;refine HH.done (by kernel_rfl) ?_;simp only [List.drop_succ_cons,List.drop_zero];clear HRF HRC HVM HVT HVU e0 e1 e2 a0 a1 a2 eL lC hb p0 p1 p2 p3 p4 r0 r1 r2 r3 rL HMU;obtain ⟨ng,X,n3,c8,Y,m2,d2,rfl,hv0⟩:=HV8.out;obtain ⟨_,_,_,_,_,_,_,hkg,_⟩:=HFB.out;have HFS:=ze (VB HFB.out HV8.out);rw [<- HST.out] at HFS;have HBS:=ze (zZ (ng:=ng) (A:=X) (n:=n3) (c:=c8) (B:=Y) (m:=m2) (d:=d2) HB.out (Nat.le_refl _));have f0:=hkg.frozen 0;have f1:=hkg.frozen 1;have f2:=hkg.frozen 2;have u0:=hkg.cell 0;have u1:=hkg.cell 1;have u2:=hkg.cell 2;simp at u0 u1 u2;clear hv0 hkg HFB HB HV8;go_wp2_with fail;go_roundw
      case rel=>exact ⟨i+1,by omega,by go_num,HFS,HBS⟩
      case measure=>simp [intOf];omega
def zx4 (t:List UInt8) (x:Int) (w:World) (e:Ending) (w' :World):Prop:=e= .returned (.tuple #[str t,.int .i64 x])/\Below w.heap.size w w'
noncomputable def zy9 (n:Net) (gs:List (List UInt8)) (x:Int):List UInt8:=if x=0 then zh (cross n.pipes.length n.pf n.pt (xt n) (zl gs) (zl gs)) else []
theorem znd.tx {n:Net} {gs:List (List UInt8)} {x:Int} {w w' :World} {e:Ending} (h:znd n gs x w e w'):zx4 (zy9 n gs x) x w e w' :=by
 obtain ⟨hb,⟨h0,rfl⟩ | ⟨rfl,rfl⟩⟩:=h
 . exact ⟨by unfold zy9;rw [if_neg h0],hb⟩
 . exact ⟨by unfold zy9;rw [if_pos rfl],hb⟩
noncomputable def zza (n:Net) (fs:List (List UInt8)) (x:Int):List UInt8:=if x=0 then zh (1 / Zv n.pipes.length (Zl n) (zl fs)) else []
theorem znc.tx {n:Net} {fs:List (List UInt8)} {x:Int} {w w' :World} {e:Ending} (h:znc n fs x w e w'):zx4 (zza n fs x) x w e w' :=by
 obtain ⟨hb,⟨h0,rfl⟩ | ⟨rfl,rfl⟩⟩:=h
 . exact ⟨by unfold zza;rw [if_neg h0],hb⟩
 . exact ⟨by unfold zza;rw [if_pos rfl],hb⟩
open Classical in
noncomputable def zzf (n:Net) (cs:List (List UInt8)) (a b x:Int):List UInt8:=
 if hx:x=0/\∃ h,Eff n.nodes.length n.pipes.length n.pf n.pt (zl cs) a.toNat b.toNat h then zh (XT n.pipes.length n.pf n.pt (zl cs) a.toNat hx.2.choose) else []
theorem zn2.tx {n:Net} {cs:List (List UInt8)} {a b x:Int} {w w' :World} {e:Ending} (h:zn2 n cs a b x w e w'):zx4 (zzf n cs a b x) x w e w' :=by
 obtain ⟨hb,⟨h0,rfl⟩ | ⟨rfl,h,he,_,rfl⟩⟩:=h
 . exact ⟨by unfold zzf;rw [dif_neg (fun hx=>h0 hx.1)],hb⟩
 . have hx:(0:Int)=0/\∃ h,Eff n.nodes.length n.pipes.length n.pf n.pt (zl cs) a.toNat b.toNat h:=⟨rfl,h,he⟩
   refine ⟨?_,hb⟩;unfold zzf;rw [dif_pos hx,he.same hx.2.choose_spec]
set_option maxRecDepth 100000 in
theorem zqp (v va:Value) (n:Net) (x:Ask) (w:World) (hn:Vl w v n) (hx:zb5 w va x):Calls Tryz.prog 3 #[v,va] w (vO w (.bool true)):=by
 have hgr:=fun w' (h:Below w.heap.size w w')=>zrk v n w' (hn.below h)
 have hwi:=fun w' (h:Below w.heap.size w w')=>zu3 va x w' (hx.below h)
 cases hg:VU n with
 | true=>
   rw [hg] at hgr;obtain ⟨A0,c0,A1,c1,A2,c2,A3,c3,rfl,_⟩:=hn;obtain ⟨B0,d0,B1,d1,B2,d2,B3,d3,B4,d4,rfl,_⟩:=hx;clear hg hwi;have HW:=ze (ext (zg w (.cells #[.slice A0 n.nodes.length c0,.slice A1 n.pipes.length c1,.slice A2 n.heads.length c2,.slice A3 n.wells.length c3] 26)) (zg _ (.cells #[.slice B0 x.cond.length d0,.slice B1 x.heads.length d1,.slice B2 x.flows.length d2,.int .i64 x.node,.int .i64 x.pipe,.int .i64 x.a,.int .i64 x.b,str x.first,str x.second,.slice B3 x.wells.length d3,.slice B4 x.limits.length d4] 31)))
   go_enter Tryz.func3,Tryz.ntmps3
   go_wp2_with fail;refine (hgr _ HW.out).mono ?_;rintro e WN ⟨rfl,hbB⟩;replace HW:=eb_ HW hbB;clear hbB;go_wp2_with fail;refine (zek _).mono ?_;rintro e WN ⟨rfl,hbB⟩;replace HW:=eb_ HW hbB;clear hbB;go_wp2_with fail;go_ret;exact ⟨rfl,HW.out⟩
 | false=>
   rw [hg] at hgr;have hni:=hn.small hg
   cases hw:zgl x with
   | true=>
     rw [hw] at hwi;obtain ⟨A0,c0,A1,c1,A2,c2,A3,c3,rfl,_⟩:=hn;obtain ⟨B0,d0,B1,d1,B2,d2,B3,d3,B4,d4,rfl,_⟩:=hx;clear hg hni hw;have HW:=ze (ext (zg w (.cells #[.slice A0 n.nodes.length c0,.slice A1 n.pipes.length c1,.slice A2 n.heads.length c2,.slice A3 n.wells.length c3] 26)) (zg _ (.cells #[.slice B0 x.cond.length d0,.slice B1 x.heads.length d1,.slice B2 x.flows.length d2,.int .i64 x.node,.int .i64 x.pipe,.int .i64 x.a,.int .i64 x.b,str x.first,str x.second,.slice B3 x.wells.length d3,.slice B4 x.limits.length d4] 31)))
     have HA:Hid (Blk ((w.alloc (.cells #[.slice A0 n.nodes.length c0,.slice A1 n.pipes.length c1,.slice A2 n.heads.length c2,.slice A3 n.wells.length c3] 26)).alloc (.cells #[.slice B0 x.cond.length d0,.slice B1 x.heads.length d1,.slice B2 x.flows.length d2,.int .i64 x.node,.int .i64 x.pipe,.int .i64 x.a,.int .i64 x.b,str x.first,str x.second,.slice B3 x.wells.length d3,.slice B4 x.limits.length d4] 31)) (w.heap.size+1) 31 #[.slice B0 x.cond.length d0,.slice B1 x.heads.length d1,.slice B2 x.flows.length d2,.int .i64 x.node,.int .i64 x.pipe,.int .i64 x.a,.int .i64 x.b,str x.first,str x.second,.slice B3 x.wells.length d3,.slice B4 x.limits.length d4]):=ze (by
      have h:=Blk.new (w.alloc (.cells #[.slice A0 n.nodes.length c0,.slice A1 n.pipes.length c1,.slice A2 n.heads.length c2,.slice A3 n.wells.length c3] 26)) 31 #[.slice B0 x.cond.length d0,.slice B1 x.heads.length d1,.slice B2 x.flows.length d2,.int .i64 x.node,.int .i64 x.pipe,.int .i64 x.a,.int .i64 x.b,str x.first,str x.second,.slice B3 x.wells.length d3,.slice B4 x.limits.length d4];simp only [World.size_alloc] at h
      exact h)
     go_enter Tryz.func3,Tryz.ntmps3
     go_wp2_with fail;refine (hgr _ HW.out).mono ?_;rintro e WN ⟨rfl,hbB⟩
     try clear q0 q1 q2 q3 q4 q5 q6 q7 q8 q9 q10 qL
     replace HA:=kb_ HA hbB;replace HW:=eb_ HW hbB;clear hbB;obtain ⟨q0,q1,q2,q3,q4,q5,q6,q7,q8,q9,q10,qL⟩:=ZL HA.out;go_wp2_with fail;refine (hwi _ HW.out).mono ?_;rintro e WN ⟨rfl,hbB⟩
     try clear q0 q1 q2 q3 q4 q5 q6 q7 q8 q9 q10 qL
     replace HA:=kb_ HA hbB;replace HW:=eb_ HW hbB;clear hbB;obtain ⟨q0,q1,q2,q3,q4,q5,q6,q7,q8,q9,q10,qL⟩:=ZL HA.out;go_wp2_with fail;refine (zek _).mono ?_;rintro e WN ⟨rfl,hbB⟩
     try clear q0 q1 q2 q3 q4 q5 q6 q7 q8 q9 q10 qL
     replace HA:=kb_ HA hbB;replace HW:=eb_ HW hbB;clear hbB;obtain ⟨q0,q1,q2,q3,q4,q5,q6,q7,q8,q9,q10,qL⟩:=ZL HA.out;go_wp2_with fail;go_ret;exact ⟨rfl,HW.out⟩
   | false=>
     rw [hw] at hwi;have hsz:=zs1 hg;obtain ⟨hl0,hl1,hl2,_⟩:=zvv hw;have hfz:=fun w' (hb:Below w.heap.size w w')=>hni.below hb
     obtain ⟨B0,d0,B1,d1,B2,d2,B3,d3,B4,d4,rfl,t0,t1,t2,_⟩:=hx;have hc0:=t0.small hl0;have hc1:=t1.small hl1;have hc2:=t2.small hl2;clear t0 t1 t2 hl0 hn;obtain ⟨m0,e0⟩:∃ m,m=x.cond.length:=⟨_,rfl⟩;obtain ⟨m1,e1⟩:∃ m,m=x.heads.length:=⟨_,rfl⟩;rw [<- e0] at hc0 hwi |-;rw [<- e1] at hc1 hwi |-;obtain ⟨m2,e2⟩:∃ m,m=x.flows.length:=⟨_,rfl⟩;rw [<- e2] at hc2 hwi |-;have HM2:=ze e2;have HM0:=ze e0;have HM1:=ze e1;clear e0 e1 e2;generalize x.node=z3 at hwi |-;generalize x.pipe=z4 at hwi |-;generalize x.a=z5 at hwi |-;generalize x.b=z6 at hwi |-;generalize x.first=s7 at hwi |-;generalize x.second=s8 at hwi |-;generalize x.wells.length=m9 at hwi |-;generalize x.limits.length=m10 at hwi |-;generalize hcs:x.cond=cs at hc0 HM0;generalize hgs:x.heads=gs at hc1 HM1 hl1;generalize hfs:x.flows=fs at hc2 HM2 hl2;clear hcs hgs hfs hw hg;have w1:=fun w' (hb:Below w.heap.size w w')=>(zmo v (.slice B0 m0 d0) n cs z5 z6 w' (hfz w' hb) (hc0.below hb) hsz).mono fun _ _ h=>h.tx
     have r1:=fun w' (hb:Below w.heap.size w w')=>(zqn v (.slice B0 m0 d0) n cs z5 z6 w' (hfz w' hb) (hc0.below hb) hsz).mono fun _ _ h=>h.tx
     have w2:=fun w' (hb:Below w.heap.size w w')=>(zkv v (.slice B1 m1 d1) n z5 z6 gs w' (hfz w' hb) (hc1.below hb) hsz (fun h=>XH hl1 h rfl (by omega))).mono fun _ _ h=>h.tx
     have r2:=fun w' (hb:Below w.heap.size w w')=>(zr9 v (.slice B1 m1 d1) n z5 z6 gs w' (hfz w' hb) (hc1.below hb) hsz (fun h=>XH hl1 h rfl (by omega))).mono fun _ _ h=>h.tx
     have w3:=fun w' (hb:Below w.heap.size w w')=>(zlk v (.slice B2 m2 d2) n z5 z6 fs w' (hfz w' hb) (hc2.below hb) hsz (fun h=>XH hl2 h rfl (by omega))).mono fun _ _ h=>h.tx
     have r3:=fun w' (hb:Below w.heap.size w w')=>(zqu v (.slice B2 m2 d2) n z5 z6 fs w' (hfz w' hb) (hc2.below hb) hsz (fun h=>XH hl2 h rfl (by omega))).mono fun _ _ h=>h.tx
     generalize XD n cs z5 z6=x1 at w1 r1;generalize zzf n cs z5 z6 x1=t1 at w1 r1;generalize VM n z5 z6 gs=x2 at w2 r2;generalize zy9 n gs x2=t2 at w2 r2;generalize VL n z5 z6 fs=x3 at w3 r3;generalize zza n fs x3=t3 at w3 r3;have HW1:=ze w1;have HR1:=ze r1;have HW2:=ze w2;have HR2:=ze r2;have HW3:=ze w3;have HR3:=ze r3;clear w1 r1 w2 r2 w3 r3;obtain ⟨A0,k0,c0,A1,k1,c1,A2,k2,c2,A3,k3,c3,rfl,hn0,hn1,hn2,hn3⟩:=hni;clear hn0 hn1 hn2 hn3 hc0 hc1 hc2 hsz hfz hl1 hl2;have HW:=ze (ext (zg w (.cells #[.slice A0 k0 c0,.slice A1 k1 c1,.slice A2 k2 c2,.slice A3 k3 c3] 26)) (zg _ (.cells #[.slice B0 m0 d0,.slice B1 m1 d1,.slice B2 m2 d2,.int .i64 z3,.int .i64 z4,.int .i64 z5,.int .i64 z6,str s7,str s8,.slice B3 m9 d3,.slice B4 m10 d4] 31)))
     have HK:Hid (Blk ((w.alloc (.cells #[.slice A0 k0 c0,.slice A1 k1 c1,.slice A2 k2 c2,.slice A3 k3 c3] 26)).alloc (.cells #[.slice B0 m0 d0,.slice B1 m1 d1,.slice B2 m2 d2,.int .i64 z3,.int .i64 z4,.int .i64 z5,.int .i64 z6,str s7,str s8,.slice B3 m9 d3,.slice B4 m10 d4] 31)) w.heap.size 26 #[.slice A0 k0 c0,.slice A1 k1 c1,.slice A2 k2 c2,.slice A3 k3 c3]):=ze ((Blk.new w 26 #[.slice A0 k0 c0,.slice A1 k1 c1,.slice A2 k2 c2,.slice A3 k3 c3]).alloc _)
     have HA:Hid (Blk ((w.alloc (.cells #[.slice A0 k0 c0,.slice A1 k1 c1,.slice A2 k2 c2,.slice A3 k3 c3] 26)).alloc (.cells #[.slice B0 m0 d0,.slice B1 m1 d1,.slice B2 m2 d2,.int .i64 z3,.int .i64 z4,.int .i64 z5,.int .i64 z6,str s7,str s8,.slice B3 m9 d3,.slice B4 m10 d4] 31)) (w.heap.size+1) 31 #[.slice B0 m0 d0,.slice B1 m1 d1,.slice B2 m2 d2,.int .i64 z3,.int .i64 z4,.int .i64 z5,.int .i64 z6,str s7,str s8,.slice B3 m9 d3,.slice B4 m10 d4]):=ze (by
      have h:=Blk.new (w.alloc (.cells #[.slice A0 k0 c0,.slice A1 k1 c1,.slice A2 k2 c2,.slice A3 k3 c3] 26)) 31 #[.slice B0 m0 d0,.slice B1 m1 d1,.slice B2 m2 d2,.int .i64 z3,.int .i64 z4,.int .i64 z5,.int .i64 z6,str s7,str s8,.slice B3 m9 d3,.slice B4 m10 d4];simp only [World.size_alloc] at h
      exact h)
     go_enter Tryz.func3,Tryz.ntmps3
     go_wp2_with fail;refine (hgr _ HW.out).mono ?_;rintro e WN ⟨rfl,hbB⟩
     try clear r0 r1 r2 r3 rL q0 q1 q2 q3 q4 q5 q6 q7 q8 q9 q10 qL
     replace HK:=kb_ HK hbB;replace HA:=kb_ HA hbB;replace HW:=eb_ HW hbB;clear hbB;obtain ⟨r0,r1,r2,r3,rL⟩:=yG HK.out;obtain ⟨q0,q1,q2,q3,q4,q5,q6,q7,q8,q9,q10,qL⟩:=ZL HA.out;clear hgr;go_wp2_with fail;refine (hwi _ HW.out).mono ?_;rintro e WN ⟨rfl,hbB⟩
     try clear r0 r1 r2 r3 rL q0 q1 q2 q3 q4 q5 q6 q7 q8 q9 q10 qL
     replace HK:=kb_ HK hbB;replace HA:=kb_ HA hbB;replace HW:=eb_ HW hbB;clear hbB;obtain ⟨r0,r1,r2,r3,rL⟩:=yG HK.out;obtain ⟨q0,q1,q2,q3,q4,q5,q6,q7,q8,q9,q10,qL⟩:=ZL HA.out;clear hwi;have hT1:(t1 != t1)=false:=by simp
     have hX1:(x1 != x1)=false:=by simp
     have hT2:(t2 != t2)=false:=by simp
     have hX2:(x2 != x2)=false:=by simp
     have hT3:(t3 == t3)=true:=by simp
     have hX3:(x3 == x3)=true:=by simp
     go_wp2_with fail;refine (HW1.out _ HW.out).mono ?_;rintro e WN ⟨rfl,hbB⟩
     try clear r0 r1 r2 r3 rL q0 q1 q2 q3 q4 q5 q6 q7 q8 q9 q10 qL
     replace HK:=kb_ HK hbB;replace HA:=kb_ HA hbB;replace HW:=eb_ HW hbB;clear hbB;obtain ⟨r0,r1,r2,r3,rL⟩:=yG HK.out;obtain ⟨q0,q1,q2,q3,q4,q5,q6,q7,q8,q9,q10,qL⟩:=ZL HA.out;clear HW1;go_wp2_with fail;refine (HR1.out _ HW.out).mono ?_;rintro e WN ⟨rfl,hbB⟩
     try clear r0 r1 r2 r3 rL q0 q1 q2 q3 q4 q5 q6 q7 q8 q9 q10 qL
     replace HK:=kb_ HK hbB;replace HA:=kb_ HA hbB;replace HW:=eb_ HW hbB;clear hbB;obtain ⟨r0,r1,r2,r3,rL⟩:=yG HK.out;obtain ⟨q0,q1,q2,q3,q4,q5,q6,q7,q8,q9,q10,qL⟩:=ZL HA.out;clear HR1;go_wp2_with fail;refine (HW2.out _ HW.out).mono ?_;rintro e WN ⟨rfl,hbB⟩
     try clear r0 r1 r2 r3 rL q0 q1 q2 q3 q4 q5 q6 q7 q8 q9 q10 qL
     replace HK:=kb_ HK hbB;replace HA:=kb_ HA hbB;replace HW:=eb_ HW hbB;clear hbB;obtain ⟨r0,r1,r2,r3,rL⟩:=yG HK.out;obtain ⟨q0,q1,q2,q3,q4,q5,q6,q7,q8,q9,q10,qL⟩:=ZL HA.out;clear HW2;go_wp2_with fail;refine (HR2.out _ HW.out).mono ?_;rintro e WN ⟨rfl,hbB⟩
     try clear r0 r1 r2 r3 rL q0 q1 q2 q3 q4 q5 q6 q7 q8 q9 q10 qL
     replace HK:=kb_ HK hbB;replace HA:=kb_ HA hbB;replace HW:=eb_ HW hbB;clear hbB;obtain ⟨r0,r1,r2,r3,rL⟩:=yG HK.out;obtain ⟨q0,q1,q2,q3,q4,q5,q6,q7,q8,q9,q10,qL⟩:=ZL HA.out;clear HR2;go_wp2_with fail;refine (HW3.out _ HW.out).mono ?_;rintro e WN ⟨rfl,hbB⟩
     try clear r0 r1 r2 r3 rL q0 q1 q2 q3 q4 q5 q6 q7 q8 q9 q10 qL
     replace HK:=kb_ HK hbB;replace HA:=kb_ HA hbB;replace HW:=eb_ HW hbB;clear hbB;obtain ⟨r0,r1,r2,r3,rL⟩:=yG HK.out;obtain ⟨q0,q1,q2,q3,q4,q5,q6,q7,q8,q9,q10,qL⟩:=ZL HA.out;clear HW3;go_wp2_with fail;refine (HR3.out _ HW.out).mono ?_;rintro e WN ⟨rfl,hbB⟩
     try clear r0 r1 r2 r3 rL q0 q1 q2 q3 q4 q5 q6 q7 q8 q9 q10 qL
     replace HK:=kb_ HK hbB;replace HA:=kb_ HA hbB;replace HW:=eb_ HW hbB;clear hbB;obtain ⟨r0,r1,r2,r3,rL⟩:=yG HK.out;obtain ⟨q0,q1,q2,q3,q4,q5,q6,q7,q8,q9,q10,qL⟩:=ZL HA.out;clear HR3;go_wp2_with fail;refine (zek _).mono ?_;rintro e WN ⟨rfl,hbB⟩
     try clear r0 r1 r2 r3 rL q0 q1 q2 q3 q4 q5 q6 q7 q8 q9 q10 qL
     replace HK:=kb_ HK hbB;replace HA:=kb_ HA hbB;replace HW:=eb_ HW hbB;clear hbB;obtain ⟨r0,r1,r2,r3,rL⟩:=yG HK.out;obtain ⟨q0,q1,q2,q3,q4,q5,q6,q7,q8,q9,q10,qL⟩:=ZL HA.out;go_wp2_with fail;go_ret;exact ⟨rfl,HW.out⟩
end Go.Proofs.YtacfcmdlgebhgaaGreat
