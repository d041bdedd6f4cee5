/- Parts of the proof: memory, numbers, walks of the functions that are called. -/
import Derived.Test.YtacfcmdlgebhgaaGreatMg31
import Derived.Test.YtacfcmdlgebhgaaGreatMg32
set_option linter.unusedVariables false
set_option linter.unusedSimpArgs false
set_option maxRecDepth 100000
set_option maxHeartbeats 32000000
namespace Go.Proofs.YtacfcmdlgebhgaaGreat
open Go.RowKit Go.Deep
attribute [local go_sem ↓] Go.wp_at_zero Go.wp_at_succ
theorem zrv (l:List UInt8) (w:World) (hs:zV l):Calls Tryz.prog 71 #[str l] w (vO w (.bool (zp l).isSome)):=by
 have h1:=fun w=>VF ⟨l.toArray⟩ w (yE hs)
 rw [yy] at h1
 obtain ⟨r,HR⟩:∃ r,Hid ((zp l).isSome=r):=⟨_,ze rfl⟩
 rw [HR.out]
 go_enter Tryz.func71,Tryz.ntmps71
 go_wp2_with fail
 refine (h1 _).mono ?_
 rintro e w1 ⟨v,b,rfl,⟨ng,X,n1,c8,Y,n2,c9,rfl⟩,hb,hq,hb1⟩
 have HB:=ze (hb.trans HR.out)
 have HW:=ze (ext hb1 (zg w1 (.cells #[.bool ng,.slice X n1 c8,.slice Y n2 c9] 63)))
 clear hb hq hb1 h1
 go_wp2_with fail
 go_ret
 exact ⟨z0 HB.out.symm,HW.out⟩
theorem zng (v:Value) (q:Rat) (w:World) (hv:xu w v q) (hs:zG 50000 q):Calls Tryz.prog 40 #[v] w (vO w (.tuple #[str (zh q),.int .i64 0])):=by
 have hl:Vz 33554432 q:=(Vh (yv hs)).mono (by omega)
 obtain ⟨ng,X,n1,c8,Y,n2,c9,rfl,hv0⟩:=hv
 have hv1:xu w (.agg #[.bool ng,.slice X n1 c8,.slice Y n2 c9]) q:=⟨ng,X,n1,c8,Y,n2,c9,rfl,hv0⟩
 have hx:=zg w (.cells #[.bool ng,.slice X n1 c8,.slice Y n2 c9] 63)
 have ht:=zdi _ q _ (hv1.below hx) hl
 have hvd:=fun w=>zrv (zh q) w (yp hs)
 rw [yv hs] at hvd
 have HW:=ze hx
 clear hv0 hv1 hx
 go_enter Tryz.func40,Tryz.ntmps40
 go_wp2_with fail
 refine ht.mono ?_
 rintro e w1 ⟨rfl,hb1⟩
 have HW1:=ze (ext HW.out hb1)
 clear hb1 ht HW
 go_wp2_with fail
 refine (hvd _).mono ?_
 rintro e w2 ⟨rfl,hb2⟩
 have HW2:=ze (ext HW1.out hb2)
 clear hb2 hvd HW1
 go_wp2_with fail
 go_ret2
 exact ⟨rfl,HW2.out⟩
theorem zqq:vS [49]=1:=by
 have h:=yv (q:=1) (Dz.short (Dz.one 1) (show 1<50000 by omega))
 rw [ZZ] at h
 unfold vS
 rw [h];rfl
theorem zpm:vS [48]=0:=by unfold vS;rw [za0];rfl
theorem zm1 {a b:Nat}:Net.at_ (Vp a b)=zal a b:=by
 funext k
 unfold Net.at_ Vp zal
 by_cases h1:k=a
 . subst h1
   simp [zqq]
 have e1:((a:Int) == (k:Int))=false:=by rw [beq_eq_false_iff_ne];omega
 by_cases h2:k=b
 . subst h2
   simp [h1,e1,zpm]
 have e2:((b:Int) == (k:Int))=false:=by rw [beq_eq_false_iff_ne];omega
 simp [h1,h2,e1,e2]
theorem zol (a b:Int):∀ v∈Vp a b,(zp v.value).isSome=true:=by
 intro v hv
 simp [Vp] at hv
 rcases hv with rfl | rfl
 . have h:=yv (q:=1) (Dz.short (Dz.one 1) (show 1<50000 by omega))
   rw [ZZ] at h
   show (zp [49]).isSome=true
   rw [h];rfl
 . show (zp [48]).isSome=true
   rw [za0];rfl
def zy2 (n:Net) (cs:List (List UInt8)) (a b:Nat) (w:World) (e:Ending) (w' :World):Prop:=
 ∃ v h,e= .returned v/\xT w' v n.nodes.length h/\Eff n.nodes.length n.pipes.length n.pf n.pt (zl cs) a b h/\xB n.nodes.length h 12735/\Below w.heap.size w w'
theorem zja (vn vc vl vb:Value) (n:Net) (cs:List (List UInt8)) (l:List Bool) (a b:Nat) (w:World) (hn:Zw w vn n) (hc:xT w vc n.pipes.length (zl cs)) (hl:yk w vl (Vp a b)) (hb:Zy w vb l) (hm:zde n (fun k=>(k:Int)∈[(a:Int)]) l)
 (h0:n.err=0) (hcn:xw n cs=0) (hN:n.nodes.length<=6) (hp:n.pipes.length<=9) (he:xY n a b=0):
 Calls Tryz.prog 28 #[vn,vc,vl,.slice none 0 0,vb] w (zy2 n cs a b w):=by
 obtain ⟨e1,e2,e3,e4,e5,e6⟩:=Yj he
 have hG:=zm3 (b:=b) h0 hcn hN hp (by omega:a<n.nodes.length) hm
 have hG2:xP n.nodes.length n.pipes.length n.pf n.pt (zl cs) (Net.at_ (Vp a b)) (fun k=>(Net.at_ [] k).getD 0) (fun k=>l.getD k false):=by
  rw [zm1];exact hG
 refine (zrm vn vc vl (.slice none 0 0) vb n (Vp a b) [] l (zl cs) w hn hc hl (zqz w) hb (zol _ _) (fun v hv=>by cases hv) hm.len (Net.err_zero h0).1.1.1.ends hG2).mono ?_
 rintro e w' ⟨v,h,rfl,hv,his,hdz,hbl⟩
 rw [zm1] at his
 exact ⟨v,h,rfl,hv,zv7 hG (by omega) (by omega) (by omega) hm (by simpa using e6) his,hG.commonE his,hbl⟩
theorem yl {q:Rat} (h:zG 50000 q):Vz 8388608 q:=(Vh (yv h)).mono (by omega)
theorem zde.one {n:Net} {N a:Nat} {l:List Bool} (ha:a<N) (h:zde n (fun k=>(Z6 N a)[k]?=some true) l):zde n (fun k=>(k:Int)∈[(a:Int)]) l:=⟨h.len,fun k=>(h.iff k).trans (Xi ha)⟩
theorem VB {w:World} {gb:Nat} {q0 q:Rat} {ng:Bool} {X Y:Option Addr} {n1 c8 n2 c9:Nat} (h:zas w gb q0) (hv:xu w (.agg #[.bool ng,.slice X n1 c8,.slice Y n2 c9]) q):zas (World.ref w gb ng X n1 c8 Y n2 c9) gb q:=by
 obtain ⟨g1,A1,a1,b1,B1,a2,b2,hk,_⟩:=h
 have hc:Chg (fun b=>b=gb) w (World.ref w gb ng X n1 c8 Y n2 c9):=
  Chg.setCell (S:=fun b=>b=gb) (Chg.setCell (S:=fun b=>b=gb) (Chg.setCell (S:=fun b=>b=gb) (Chg.refl w) (p:=⟨gb,0,none⟩) rfl _) (p:=⟨gb,1,none⟩) rfl _) (p:=⟨gb,2,none⟩) rfl _
 exact ⟨ng,X,n1,c8,Y,n2,c9,yL hk,hc.ref hv (fun b e=>by subst e;exact hk.noI64 (zgo _ _ _ _ _ _ _))⟩
def zun (K:Nat) (f:Nat->Rat) (gb:Nat) (W:World) (iv:Value) (wr:World):Prop:=
 ∃ i:Nat,i<=K/\iv= .int .i64 i/\Hid (zas wr gb (f i))/\Hid (Below W.heap.size W wr)
theorem zqn (vn vc:Value) (n:Net) (cs:List (List UInt8)) (a b:Int) (w:World) (hn:Zw w vn n) (hc:yY w vc cs) (hsz:n.err=0->n.nodes.length<=6/\n.pipes.length<=9):
 Calls Tryz.prog 8 #[vn,vc,.int .i64 a,.int .i64 b] w (zn2 n cs a b (XD n cs a b) w):=by
 have HNET:=ze hn
 have HCN:=ze hc
 have HSZ:=ze hsz
 obtain ⟨A0,k0,c0,A1,k1,c1,A2,k2,c2,A3,k3,c3,rfl,hn0,hn1,hn2,hn3⟩:=hn
 have hk0:k0=n.nodes.length:=by obtain ⟨A',c',e,_⟩:=hn0;injection e
 have hk1:k1=n.pipes.length:=by obtain ⟨A',c',e,_⟩:=hn1;injection e
 have hck:=fun w' (h:Below w.heap.size w w')=>zdy (.agg #[.slice A0 k0 c0,.slice A1 k1 c1,.slice A2 k2 c2,.slice A3 k3 c3]) n w' (HNET.out.below h)
 have hcd:=fun w' (h:Below w.heap.size w w')=>zui (.agg #[.slice A0 k0 c0,.slice A1 k1 c1,.slice A2 k2 c2,.slice A3 k3 c3]) vc n cs w' (HNET.out.below h) (HCN.out.below h)
 have hap:=fun w' (h:Below w.heap.size w w') (h0:n.err=0)=>zej (.agg #[.slice A0 k0 c0,.slice A1 k1 c1,.slice A2 k2 c2,.slice A3 k3 c3]) n a b w' (HNET.out.below h) h0
 obtain ⟨ev,HEV⟩:∃ ev,Hid (n.err=ev):=⟨_,ze rfl⟩
 obtain ⟨cv,HCV⟩:∃ cv,Hid (xw n cs=cv):=⟨_,ze rfl⟩
 obtain ⟨zv,HZV⟩:∃ zv,Hid (xY n a b=zv):=⟨_,ze rfl⟩
 obtain ⟨x,HX⟩:∃ x,Hid (XD n cs a b=x):=⟨_,ze rfl⟩
 have HASK:Hid (x=if ev≠0 then ev else if cv≠0 then cv else zv):=by
  show _=_
  rw [<- HX.out]
  unfold XD YK
  rw [HEV.out,HCV.out,HZV.out]
  by_cases h1:ev=0
  . subst h1;simp
  simp [h1]
 rw [HX.out]
 rw [HEV.out] at hck
 rw [HZV.out] at hap
 unfold zmk at hcd
 rw [HCV.out] at hcd
 have HCK:=ze hck
 have HCD:=ze hcd
 have HAP:=ze hap
 have HP1:=ze hn1
 have HK0:=ze hk0
 have HK1:=ze hk1
 have HW:=ze (zg w (.cells #[.slice A0 k0 c0,.slice A1 k1 c1,.slice A2 k2 c2,.slice A3 k3 c3] 26))
 have HK:=ze (Blk.new w 26 #[.slice A0 k0 c0,.slice A1 k1 c1,.slice A2 k2 c2,.slice A3 k3 c3])
 clear hn0 hn1 hn2 hn3 hck hcd hap hsz hc hk0 hk1
 obtain ⟨r0,r1,r2,r3,rL⟩:=yG HK.out
 go_enter Tryz.func8,Tryz.ntmps8
 go_wp2_with fail
 refine (HCK.out _ HW.out).mono ?_
 rintro e WN ⟨rfl,hbB⟩
 try clear r0 r1 r2 r3 rL
 replace HK:=kb_ HK hbB
 replace HW:=eb_ HW hbB
 clear hbB
 obtain ⟨r0,r1,r2,r3,rL⟩:=yG HK.out
 by_cases h0:ev=0
 rotate_left
 . have hI:(ev != 0)=true:=by rw [bne_iff_ne];exact h0
   have HASK2:Hid (x=ev):=ze (by have:=HASK.out;rw [if_pos h0] at this;exact this);have H0:=ze h0;clear HASK h0 HCK HCD HEV HAP;go_wp2_with fail;go_ret2;have h9:=HASK2.out;subst h9;exact ⟨HW.out,.inl ⟨H0.out,rfl⟩⟩
 subst h0
 have HASK2:Hid (x=if cv≠0 then cv else zv):=ze (by have:=HASK.out;rw [if_neg (by decide)] at this;exact this);clear HASK;go_wp2_with fail;refine (HCD.out _ HW.out).mono ?_;rintro e w2 ⟨hb2,hor⟩;clear r0 r1 r2 r3 rL;replace HK:=kb_ HK hb2;replace HW:=eb_ HW hb2;clear hb2
 rcases hor with ⟨hne,rfl⟩ | ⟨h0,v,rfl,hv⟩
 . have hI:(cv != 0)=true:=by rw [bne_iff_ne];exact hne
   have HNE:=ze hne;have HF:Hid (x=cv):=ze (by have:=HASK2.out;rw [if_pos hne] at this;exact this);clear hne HASK2;go_wp2_with fail;go_ret2;have h9:=HF.out;subst h9;exact ⟨HW.out,.inl ⟨HNE.out,rfl⟩⟩
 . subst h0
   have HF:Hid (x=zv):=ze (by have:=HASK2.out;rw [if_neg (by decide)] at this;exact this);have HN0:Hid (n.err=0):=ze (by rw [HEV.out]);have HV:=ze hv;have HVB:=ze (zP w2);clear hv HASK2;obtain ⟨AV,capV,hve,_⟩:=HV.out;subst hve;obtain ⟨r0,r1,r2,r3,rL⟩:=yG HK.out;go_wp2_with fail;refine (HAP.out _ HW.out HN0.out).mono ?_;rintro e WN ⟨rfl,hbB⟩
   try clear r0 r1 r2 r3 rL
   replace HK:=kb_ HK hbB;replace HVB:=eb_ HVB hbB;replace HW:=eb_ HW hbB;clear hbB;obtain ⟨r0,r1,r2,r3,rL⟩:=yG HK.out
   by_cases hz0:zv=0
   rotate_left
   . have hI:(zv != 0)=true:=by rw [bne_iff_ne];exact hz0
     have HNE:=ze hz0;clear hz0;go_wp2_with fail;go_ret2;have h9:=HF.out;subst h9;exact ⟨HW.out,.inl ⟨HNE.out,rfl⟩⟩
   subst hz0
   have he:=Yj HZV.out;obtain ⟨an,ha⟩:∃ an:Nat,a=(an:Int):=⟨a.toNat,by omega⟩;obtain ⟨bn,hb⟩:∃ bn:Nat,b=(bn:Int):=⟨b.toNat,by omega⟩;subst ha;subst hb;have HE:=ze he;have HEN:=ze (Net.err_zero HN0.out).1.1.1.ends;have HSM:=ze (zj4 HN0.out);have hk24:k0<=24:=by have:=HSM.out.1;have:=HK0.out;omega
   have han:an<k0:=by have:=HE.out.2.1;have:=HK0.out;omega
   have hai:(an:Int)<(k0:Int):=by omega
   have hmk:=fun w=>za7 .i64 k0 (by omega) w
   have HC0:Hid (xw n cs=0):=ze (by rw [HCV.out]);clear he HCK HCD HAP HX
   go_upto_region 11 with fail
   have hx:=zg WN (.cells (xU (List.replicate k0 false)).toArray 4)
   have hbm:vK (WN.alloc (.cells (xU (List.replicate k0 false)).toArray 4)) WN.heap.size (List.replicate k0 false) []:=by
    unfold vK;rw [List.append_nil];exact Blk.new WN 4 _
   have HBM:=ze hbm;have hgw:w.heap.size<WN.heap.size:=HK.out.lt;have hgv:w2.heap.size<=WN.heap.size:=HVB.out.size;clear r0 r1 r2 r3 rL hbm hmk;replace HK:=kb_ HK hx;replace HVB:=eb_ HVB hx;replace HW:=eb_ HW hx;clear hx;generalize WN.alloc (.cells (xU (List.replicate k0 false)).toArray 4)=WM at HK HVB HW HBM |-;generalize WN.heap.size=g at HBM hgw hgv |-;have hal:an<(List.replicate k0 false).length:=by simp;exact han
   have c1:=HBM.out.cell hal;have f1:=HBM.out.frozen an;have HB3:Hid (vK _ g (Z6 k0 an) []):=HBM.out.set_ hal true;have hgn:w.heap.size≠g:=by omega
   have HK3:=ze (HK.out.far (p:=⟨g,an,none⟩) hgn (.bool true));have HW3:=ze (HW.out.setCell (p:=⟨g,an,none⟩) (by show w.heap.size<=g;omega) (.bool true));have HVB3:=ze (HVB.out.setCell (p:=⟨g,an,none⟩) (by show w2.heap.size<=g;omega) (.bool true));generalize (List.replicate k0 false)[an]=x0 at c1;clear hal HBM HK HW HVB
   go_upto_region 12 with fail
   clear c1 f1;generalize WM.setCell ⟨g,an,none⟩ (.bool true)=WS at HB3 HK3 HW3 HVB3 |-;have HK:=HK3;have HW:=HW3;have HV1:=ze (HV.out.below HVB3.out);clear HK3 HW3 HVB3 HV;have hol:(Z6 k0 an).length=k0:=by simp [Z6]
   have hrd:=HB3.out.reads;have hvb:Zy WS (.slice (some ⟨g,0,none⟩) k0 k0) (Z6 k0 an):=⟨some ⟨g,0,none⟩,k0,by rw [hol],by omega,by unfold maxLen;omega,hrd⟩;have HVBO:=ze hvb;have HAN:=ze han;have hj:=fun w' (h:Below WS.heap.size WS w')=>zcl (.agg #[.slice A0 k0 c0,.slice A1 k1 c1,.slice A2 k2 c2,.slice A3 k3 c3]) (.slice (some ⟨g,0,none⟩) k0 k0) n (Z6 k0 an) w' (HNET.out.below (ext HW.out h)) (HVBO.out.below h) HEN.out (by rw [hol];exact HK0.out) (by rw [hol];have:=HAN.out;omega) (by rw [hol];omega)
   have HJ:=ze hj;have hsv:=fun w' vl vb l (h:Below WS.heap.size WS w') (hl:yk w' vl (Vp (an:Int) (bn:Int))) (hb:Zy w' vb l) (hm:zde n (fun k=>(k:Int)∈[(an:Int)]) l)=>zja (.agg #[.slice A0 k0 c0,.slice A1 k1 c1,.slice A2 k2 c2,.slice A3 k3 c3]) (.slice AV n.pipes.length capV) vl vb n cs l an bn w' (HNET.out.below (ext HW.out h)) (HV1.out.below h) hl hb hm HN0.out HC0.out (HSZ.out HN0.out).1 (HSZ.out HN0.out).2 HZV.out
   have HSV:=ze hsv;clear hj hsv hvb hrd hol HB3
   go_cut [15] from 47 (fun s wc=>∃ (A9:Option Addr) (c9:Nat) (h:Nat->Rat),s= .slice A9 n.nodes.length c9/\Hid (xT wc (.slice A9 n.nodes.length c9) n.nodes.length h)/\Hid (Eff n.nodes.length n.pipes.length n.pf n.pt (zl cs) an bn h)/\Hid (xB n.nodes.length h 12735)/\
    Hid (xT wc (.slice AV n.pipes.length capV) n.pipes.length (zl cs))/\Hid (Blk wc w.heap.size 26 #[.slice A0 k0 c0,.slice A1 k1 c1,.slice A2 k2 c2,.slice A3 k3 c3])/\Hid (Below w.heap.size w wc))
   case first=>
    obtain ⟨r0,r1,r2,r3,rL⟩:=yG HK.out;refine yh (S:=fun w' =>Hid (Below WS.heap.size WS w')/\w'.cell? ⟨w.heap.size,0,none⟩=some (.slice A0 k0 c0)/\w'.cell? ⟨w.heap.size,1,none⟩=some (.slice A1 k1 c1)/\w'.cell? ⟨w.heap.size,2,none⟩=some (.slice A2 k2 c2)/\w'.cell? ⟨w.heap.size,3,none⟩=some (.slice A3 k3 c3)) 10 (by kernel_rfl) (by kernel_rfl) (zx (z8 WS) (fun hB=>⟨zk hB rL r0,zk hB rL r1,zk hB rL r2,zk hB rL r3⟩)) (fun hHeld=>?_);refine HH.take 0 (oi:=_) (v:=?_) rfl (by kernel_rfl) (by kernel_rfl) (by kernel_rfl) (fun _ _ _ h=>h) (Or.inl ⟨by rfl,?_⟩) ‹_› ?_;rotate_left
    . (intro w9 hSw;(try dsimp only at hSw);go_split_ands;go_simp;try with_reducible rfl)
    try simp only [Act.put,List.setIfInBounds_toArray,List.set_cons_zero,List.set_cons_succ]
    refine HH.take 1 (oi:=_) (v:=?_) rfl (by kernel_rfl) (by kernel_rfl) (by kernel_rfl) (fun _ _ _ h=>h) (Or.inl ⟨by rfl,?_⟩) ‹_› ?_;rotate_left
    . (intro w9 hSw;(try dsimp only at hSw);go_split_ands;go_simp;try with_reducible rfl)
    try simp only [Act.put,List.setIfInBounds_toArray,List.set_cons_zero,List.set_cons_succ]
    refine HH.take 2 (oi:=_) (v:=?_) rfl (by kernel_rfl) (by kernel_rfl) (by kernel_rfl) (fun _ _ _ h=>h) (Or.inl ⟨by rfl,?_⟩) ‹_› ?_;rotate_left
    . (intro w9 hSw;(try dsimp only at hSw);go_split_ands;go_simp;try with_reducible rfl)
    try simp only [Act.put,List.setIfInBounds_toArray,List.set_cons_zero,List.set_cons_succ]
    refine HH.take 3 (oi:=_) (v:=?_) rfl (by kernel_rfl) (by kernel_rfl) (by kernel_rfl) (fun _ _ _ h=>h) (Or.inl ⟨by rfl,?_⟩) ‹_› ?_;rotate_left
    . (intro w9 hSw;(try dsimp only at hSw);go_split_ands;go_simp;try with_reducible rfl)
    try simp only [Act.put,List.setIfInBounds_toArray,List.set_cons_zero,List.set_cons_succ]
    refine HH.take 4 (oi:=_) (v:=?_) rfl (by kernel_rfl) (by kernel_rfl) (by kernel_rfl) (fun _ _ _ h=>h) (Or.inl ⟨by rfl,?_⟩) ‹_› ?_;rotate_left
    . (intro w9 hSw;(try dsimp only at hSw);go_split_ands;go_simp;try with_reducible rfl)
    try simp only [Act.put,List.setIfInBounds_toArray,List.set_cons_zero,List.set_cons_succ]
    refine HH.take 5 (oi:=_) (v:=?_) rfl (by kernel_rfl) (by kernel_rfl) (by kernel_rfl) (fun _ _ _ h=>h) (Or.inl ⟨by rfl,?_⟩) ‹_› ?_;rotate_left
    . (intro w9 hSw;(try dsimp only at hSw);go_split_ands;go_simp;try with_reducible rfl)
    try simp only [Act.put,List.setIfInBounds_toArray,List.set_cons_zero,List.set_cons_succ]
    refine HH.take 7 (oi:=_) (v:=?_) rfl (by kernel_rfl) (by kernel_rfl) (by kernel_rfl) (fun _ _ _ h=>h) (Or.inl ⟨by rfl,?_⟩) ‹_› ?_;rotate_left
    . (intro w9 hSw;(try dsimp only at hSw);go_split_ands;go_simp;try with_reducible rfl)
    try simp only [Act.put,List.setIfInBounds_toArray,List.set_cons_zero,List.set_cons_succ]
    refine HH.take 8 (oi:=_) (v:=?_) rfl (by kernel_rfl) (by kernel_rfl) (by kernel_rfl) (fun _ _ _ h=>h) (Or.inl ⟨by rfl,?_⟩) ‹_› ?_;rotate_left
    . (intro w9 hSw;(try dsimp only at hSw);go_split_ands;go_simp;try with_reducible rfl)
    try simp only [Act.put,List.setIfInBounds_toArray,List.set_cons_zero,List.set_cons_succ]
    refine HH.ready (rs:=[6,9]) (by kernel_rfl) (by simp) (by kernel_rfl) ?_;refine zT.cons (o:=_) rfl (fun K hK=>?_) (zT.cons (o:=_) rfl (fun K hK=>?_) zT.nil)
    . skip
      go_simp
      have hL:=(Blk.new WS 43 #[.int .i64 (an:Int),.string ⟨#[49]⟩,.int .i64 (bn:Int),.string ⟨#[48]⟩]).drew;have HL:=ze hL;clear hL;have hH0:=hHeld;clear hHeld;refine hK.out _ _ (zx (zL WS _) (fun hB=>⟨zk hB rL r0,zk hB rL r1,zk hB rL r2,zk hB rL r3⟩)) (fun hHeld=>?_);clear hH0 hK K
      try simp only [Act.put,List.setIfInBounds_toArray,List.set_cons_zero,List.set_cons_succ]
      refine HH.ready (rs:=[9]) (by kernel_rfl) (by simp) (by kernel_rfl) ?_;refine zT.cons (o:=_) rfl (fun K hK=>?_) zT.nil
      go_simp
      go_at_call 29;refine (HJ.out _ hHeld.1.out).mono ?_;rintro e w5 ⟨v5,l,rfl,hv5,hm,hb5⟩;have HV5:=ze hv5;have HM:=ze (hm.one HAN.out);have HL5:=ze (zju (HL.out.below hb5 HL.out.lt));clear hv5 hm HL;have hH0:=hHeld;clear hHeld;refine hK.out _ _ (zx (zu hb5 hH0.1) (fun hB=>⟨zk hB rL r0,zk hB rL r1,zk hB rL r2,zk hB rL r3⟩)) (fun hHeld=>?_);clear hH0 hK K
      try simp only [Act.put,List.setIfInBounds_toArray,List.set_cons_zero,List.set_cons_succ]
      have HB5:=hHeld.1;have HBY:=(hHeld.1).out
      try clear r0 r1 r2 r3 rL
      replace HK:=kb_ HK HBY;replace HV1:=ze (xT.below HV1.out HBY);replace HW:=eb_ HW HBY;clear HBY hHeld;refine HH.done (by kernel_rfl) ?_;simp only [List.drop_succ_cons,List.drop_zero];obtain ⟨r0,r1,r2,r3,rL⟩:=yG HK.out;go_wp2_with fail;refine (HSV.out _ _ _ _ HB5.out HL5.out HV5.out HM.out).mono ?_;rintro e w6 ⟨v6,h6,rfl,hv6,hEff,hCom,hb6⟩;have HNH:=ze hv6;have HEF:=ze hEff;have HCO:=ze hCom;obtain ⟨A9,c9,hve,_⟩:=HNH.out;subst hve;clear r0 r1 r2 r3 rL hv6 hEff hCom;replace HK:=kb_ HK hb6;replace HV1:=ze (xT.below HV1.out hb6);replace HW:=eb_ HW hb6;go_wp2_with fail;go_meet;exact ⟨A9,c9,h6,rfl,HNH,HEF,HCO,HV1,HK,HW⟩
    . skip
      go_simp
      go_at_call 29;refine (HJ.out _ (z8 WS).out).mono ?_;rintro e w5 ⟨v5,l,rfl,hv5,hm,hb5⟩;have HV5:=ze hv5;have HM:=ze (hm.one HAN.out);clear hv5 hm;have hH0:=hHeld;clear hHeld;refine hK.out _ _ (zx (zu hb5 hH0.1) (fun hB=>⟨zk hB rL r0,zk hB rL r1,zk hB rL r2,zk hB rL r3⟩)) (fun hHeld=>?_);clear hH0 hK K
      try simp only [Act.put,List.setIfInBounds_toArray,List.set_cons_zero,List.set_cons_succ]
      refine HH.ready (rs:=[6]) (by kernel_rfl) (by simp) (by kernel_rfl) ?_;refine zT.cons (o:=_) rfl (fun K hK=>?_) zT.nil
      go_simp
      have HV6:=ze (HV5.out.below (zg w5 (.cells #[.int .i64 (an:Int),.string ⟨#[49]⟩,.int .i64 (bn:Int),.string ⟨#[48]⟩] 43)));have HL5:=ze (zju (Blk.new w5 43 #[.int .i64 (an:Int),.string ⟨#[49]⟩,.int .i64 (bn:Int),.string ⟨#[48]⟩]));clear HV5;have hH0:=hHeld;clear hHeld;refine hK.out _ _ (zx (Zj hH0.1) (fun hB=>⟨zk hB rL r0,zk hB rL r1,zk hB rL r2,zk hB rL r3⟩)) (fun hHeld=>?_);clear hH0 hK K
      try simp only [Act.put,List.setIfInBounds_toArray,List.set_cons_zero,List.set_cons_succ]
      have HB5:=hHeld.1;have HBY:=(hHeld.1).out
      try clear r0 r1 r2 r3 rL
      replace HK:=kb_ HK HBY;replace HV1:=ze (xT.below HV1.out HBY);replace HW:=eb_ HW HBY;clear HBY hHeld;refine HH.done (by kernel_rfl) ?_;simp only [List.drop_succ_cons,List.drop_zero];obtain ⟨r0,r1,r2,r3,rL⟩:=yG HK.out;go_wp2_with fail;refine (HSV.out _ _ _ _ HB5.out HL5.out HV6.out HM.out).mono ?_;rintro e w6 ⟨v6,h6,rfl,hv6,hEff,hCom,hb6⟩;have HNH:=ze hv6;have HEF:=ze hEff;have HCO:=ze hCom;obtain ⟨A9,c9,hve,_⟩:=HNH.out;subst hve;clear r0 r1 r2 r3 rL hv6 hEff hCom;replace HK:=kb_ HK hb6;replace HV1:=ze (xT.below HV1.out hb6);replace HW:=eb_ HW hb6;go_wp2_with fail;go_meet;exact ⟨A9,c9,h6,rfl,HNH,HEF,HCO,HV1,HK,HW⟩
   case rest=>
    clear HJ HSV HAN HVBO HV1 HK HW;obtain ⟨A9,c9,h,rfl,HNH,HEF,HCO,HV1,HK,HW⟩:=hcut;have HCG:=ze (X8 HC0.out);have HNP:=ze (HSZ.out HN0.out).2;obtain ⟨S,HT⟩:∃ S,Hid (zik n.nodes.length n.pipes.length (zl cs) h S (12735+108)):=znm (fun i hi=>VH (HCG.out.2 i (by have:=HCG.out.1;omega)).2.1) HNP.out HCO.out;have hk9:k1<=9:=by have:=HNP.out;have:=HK1.out;omega
    have HAN2:=ze HEF.out.ha;have hanN:(an:Int)<(n.nodes.length:Int):=by have:=HAN2.out;omega
    go_wp2_with fail;refine (zch _).mono ?_;rintro e w7 ⟨v7,rfl,hv7,hb7⟩;have HV7:=ze hv7;clear hv7;replace HK:=kb_ HK hb7;replace HV1:=ze (xT.below HV1.out hb7);replace HNH:=ze (xT.below HNH.out hb7);replace HW:=eb_ HW hb7;obtain ⟨ng,X,n1,c8,Y,n2,c9',rfl,hv0⟩:=HV7.out;clear hv0 hb7;have HFX:Hid (zas (w7.alloc (.cells #[.bool ng,.slice X n1 c8,.slice Y n2 c9'] 63)) w7.heap.size 0):=⟨_,_,_,_,_,_,_,Blk.new _ _ _,HV7.out.below (zg w7 _)⟩;go_wp2_with fail
    go_loopw [17] (zun k1 (fun i=>yA i n.pf n.pt (zl cs) h an) w7.heap.size w7) (fun iv _=>k1 - (intOf iv).toNat)
    case atStart=>exact ⟨0,Nat.zero_le _,rfl,HFX,zg w7 _⟩
    case round=>
     clear HFX HV7;obtain ⟨i,hi,rfl,HFB,HB⟩:=hrel;have HWR:=ze (ext HW.out HB.out);have HKR:=ze (HK.out.below HB.out HK.out.lt);obtain ⟨r0,r1,r2,r3,rL⟩:=yG HKR.out;clear HKR
     by_cases hil:i<k1
     rotate_left
     . obtain rfl:k1=i:=by omega
       obtain ⟨nf,Xf,xf,yf,Zf,zf,tf,hkf,hrf⟩:=HFB.out;have e0:=hkf.cell 0;have e1:=hkf.cell 1;have e2:=hkf.cell 2;simp at e0 e1 e2;have s0:zG 50000 (yA k1 n.pf n.pt (zl cs) h an):=HT.out.flow_short (by omega) HEF.out.piped HNP.out an (by have:=HK1.out;omega);have ht:=zdi _ _ wr hrf ((yl s0).mono (by omega));clear hkf hrf s0;go_wp2_with fail;refine ht.mono ?_;rintro e w8 ⟨rfl,hb8⟩;have HW8:=ze (ext HWR.out hb8);clear hb8 ht;go_wp2_with fail;go_ret2;refine ⟨HW8.out,.inr ⟨HF.out,h,HEF.out,HCO.out,?_⟩⟩;rw [<- HK1.out]
       rfl
     have hin:i<n.pipes.length:=by have:=HK1.out;omega
     have hii:(i:Int)<(k1:Int):=by omega
     have hip:(i:Int)<(n.pipes.length:Int):=by omega
     obtain ⟨ad,e1,hb,p0,p1,p2,p3,p4⟩:=(HP1.out.below HWR.out).at_ hin;subst e1;obtain ⟨q1,q2,q3,q4⟩:=HEN.out i hin;rw [q1] at p1;rw [q3] at p2;have hf0:n.pf i<n.nodes.length:=HEF.out.piped.from_lt i hin;have ht0:n.pt i<n.nodes.length:=HEF.out.piped.to_lt i hin;have hne:n.pf i≠n.pt i:=HEF.out.piped.ne i hin;have hff:(n.pf i:Int)<(n.nodes.length:Int):=by omega
     have htt:(n.pt i:Int)<(n.nodes.length:Int):=by omega
     have hcs:zG 50000 (zl cs i):=Dz.short (zG.sz (HCG.out.2 i (by have:=HCG.out.1;omega)).2.1) (show 12<50000 by omega);have hst:=zi4 n (zl cs) h (k:=an) hne;have s0:zG 50000 (yA i n.pf n.pt (zl cs) h an):=HT.out.flow_short (by omega) HEF.out.piped HNP.out an (by omega);clear q1 q2 q3 q4 HWR
     by_cases hp1:n.pf i=an
     . rw [if_pos hp1] at hst
       have hI1:((n.pf i:Int) == (an:Int))=true:=by rw [beq_iff_eq,hp1]
       clear hp1
       go_upto_region 19 with fail
       have hx:=zg wr (.cells #[str n.pipes[i].name,.int .i64 (n.pf i:Int),.int .i64 (n.pt i:Int),str n.pipes[i].low,str n.pipes[i].high] 41);have HP:=ze (Blk.new wr 41 #[str n.pipes[i].name,.int .i64 (n.pf i:Int),.int .i64 (n.pt i:Int),str n.pipes[i].low,str n.pipes[i].high]);clear p0 p1 p2 p3 p4 hb r0 r1 r2 r3 rL;replace HFB:=ze (zas.below HFB.out hx);replace HB:=eb_ HB hx;clear hx;generalize wr.alloc (.cells #[str n.pipes[i].name,.int .i64 (n.pf i:Int),.int .i64 (n.pt i:Int),str n.pipes[i].low,str n.pipes[i].high] 41)=WP at HP HFB HB |-;generalize wr.heap.size=q at HP |-;have d1:=HP.out.cell 1;have d2:=HP.out.cell 2;have dL:=HP.out.lt;simp only [List.getElem?_toArray,List.getElem?_cons_succ,List.getElem?_cons_zero] at d1 d2;obtain ⟨gc,eC,lC,nc,Xc,xc,yc,Zc,zc,tc,c0',c1',c2',hrc⟩:=(HV1.out.below HB.out).at_ hin;subst eC;obtain ⟨gh,eH,lH,na,Xa,xa,ya,Za,za,ta,a0,a1,a2,hra⟩:=(HNH.out.below HB.out).at_ HAN2.out;subst eH;obtain ⟨gh',eH,_,nb,Xb,xb,yb,Zb,zb,tb,b0,b1,b2,hrb⟩:=(HNH.out.below HB.out).at_ ht0;injection eH with eH
       injection eH with eH
       subst eH;obtain ⟨nf,Xf,xf,yf,Zf,zf,tf,hkf,hrf⟩:=HFB.out;have e0:=hkf.cell 0;have e1:=hkf.cell 1;have e2:=hkf.cell 2;simp at e0 e1 e2;have eL:=hkf.lt;have HRA:=ze hra;have HRB:=ze hrb;have HRC:=ze hrc;have HRF:=ze hrf;have HD1:=ze (yl (Dz.short (HCO.out.get HAN2.out) (by omega)));have HD2:=ze (yl (Dz.short (HCO.out.get ht0) (by omega)));have HD3:=ze (yl (HCO.out.diff (by omega) HAN2.out ht0));have HD4:=ze (yl hcs);have HD5:=ze (yl (HT.out.short (by omega) hin HAN2.out ht0));have HD6:=ze (yl s0);have HST:=ze hst;clear hra hrb hrc hrf hkf s0 hcs hst hne HP
       refine yg (S:=fun w' =>Hid (Below WP.heap.size WP w')/\w'.cell? ⟨q,1,none⟩=some (.int .i64 (n.pf i:Int))/\w'.cell? ⟨q,2,none⟩=some (.int .i64 (n.pt i:Int))/\w'.cell? ⟨gc,i*3,none⟩=some (.bool nc)/\w'.cell? ⟨gc,i*3+1,none⟩=some (.slice Xc xc yc)/\w'.cell? ⟨gc,i*3+2,none⟩=some (.slice Zc zc tc)/\w'.cell? ⟨gh,an*3,none⟩=some (.bool na)/\w'.cell? ⟨gh,an*3+1,none⟩=some (.slice Xa xa ya)/\w'.cell? ⟨gh,an*3+2,none⟩=some (.slice Za za ta)/\w'.cell? ⟨gh,n.pt i*3,none⟩=some (.bool nb)/\w'.cell? ⟨gh,n.pt i*3+1,none⟩=some (.slice Xb xb yb)/\w'.cell? ⟨gh,n.pt i*3+2,none⟩=some (.slice Zb zb tb)/\w'.cell? ⟨w7.heap.size,0,none⟩=some (.bool nf)/\w'.cell? ⟨w7.heap.size,1,none⟩=some (.slice Xf xf yf)/\w'.cell? ⟨w7.heap.size,2,none⟩=some (.slice Zf zf tf)) 14 3 17 rfl (by kernel_rfl) (by kernel_rfl) (by kernel_rfl) rfl (zx (z8 WP) (fun hB=>⟨zk hB dL d1,zk hB dL d2,zk hB lC c0',zk hB lC c1',zk hB lC c2',zk hB lH a0,zk hB lH a1,zk hB lH a2,zk hB lH b0,zk hB lH b1,zk hB lH b2,zk hB eL e0,zk hB eL e1,zk hB eL e2⟩)) ?_ (fun hHeld=>?_)
       . intro _ _ _ _ _ h9;exact h9
       simp only [List.take_succ_cons,List.take_zero]
       iterate 14 (refine xz (v:=?_) ?_ ?_;rotate_left;(focus (as_aux_lemma=>(intro w9 hSw;(try dsimp only at hSw);go_split_ands;go_simp;try with_reducible rfl)));try simp only [Act.put,List.setIfInBounds_toArray,List.set_cons_zero,List.set_cons_succ])
       refine vk ?_;refine HH.ready (rs:=[14]) (by kernel_rfl) (by simp) (by kernel_rfl) ?_;refine zT.cons (o:=_) rfl (fun K hK=>?_) zT.nil
       go_simp
       go_at_call 33;refine (XF _ _ _ _ _ (HRA.out.below (z8 WP).out) (HRB.out.below (z8 WP).out) HD1.out HD2.out).mono ?_;rintro e w5 ⟨v5,rfl,hv5,hb5⟩;have HV5:=ze hv5;clear hv5;have hH0:=hHeld;clear hHeld;refine hK.out _ _ (zx (zu hb5 hH0.1) (fun hB=>⟨zk hB dL d1,zk hB dL d2,zk hB lC c0',zk hB lC c1',zk hB lC c2',zk hB lH a0,zk hB lH a1,zk hB lH a2,zk hB lH b0,zk hB lH b1,zk hB lH b2,zk hB eL e0,zk hB eL e1,zk hB eL e2⟩)) (fun hHeld=>?_);clear hH0 hK K
       try simp only [Act.put,List.setIfInBounds_toArray,List.set_cons_zero,List.set_cons_succ]
       refine HH.ready (rs:=[15]) (by kernel_rfl) (by simp) (by kernel_rfl) ?_;refine zT.cons (o:=_) rfl (fun K hK=>?_) zT.nil
       go_simp
       go_at_call 32;refine (Zp _ _ _ _ _ (HRC.out.below hHeld.1.out) HV5.out HD4.out HD3.out).mono ?_;rintro e w6 ⟨v6,rfl,hv6,hb6⟩;have HV6:=ze hv6;clear hv6;have hH0:=hHeld;clear hHeld;refine hK.out _ _ (zx (zu hb6 hH0.1) (fun hB=>⟨zk hB dL d1,zk hB dL d2,zk hB lC c0',zk hB lC c1',zk hB lC c2',zk hB lH a0,zk hB lH a1,zk hB lH a2,zk hB lH b0,zk hB lH b1,zk hB lH b2,zk hB eL e0,zk hB eL e1,zk hB eL e2⟩)) (fun hHeld=>?_);clear hH0 hK K
       try simp only [Act.put,List.setIfInBounds_toArray,List.set_cons_zero,List.set_cons_succ]
       refine HH.ready (rs:=[16]) (by kernel_rfl) (by simp) (by kernel_rfl) ?_;refine zT.cons (o:=_) rfl (fun K hK=>?_) zT.nil
       go_simp
       go_at_call 31;refine (vz _ _ _ _ _ (HRF.out.below hHeld.1.out) HV6.out HD6.out HD5.out).mono ?_;rintro e w8 ⟨v8,rfl,hv8,hb8⟩;have HV8:=ze hv8;clear hv8;have hH0:=hHeld;clear hHeld;refine hK.out _ _ (zx (zu hb8 hH0.1) (fun hB=>⟨zk hB dL d1,zk hB dL d2,zk hB lC c0',zk hB lC c1',zk hB lC c2',zk hB lH a0,zk hB lH a1,zk hB lH a2,zk hB lH b0,zk hB lH b1,zk hB lH b2,zk hB eL e0,zk hB eL e1,zk hB eL e2⟩)) (fun hHeld=>?_);clear hH0 hK K
       try simp only [Act.put,List.setIfInBounds_toArray,List.set_cons_zero,List.set_cons_succ]
       have HBY:=(hHeld.1).out;replace HFB:=ze (zas.below HFB.out HBY);replace HB:=eb_ HB HBY;clear HBY hHeld;refine HH.done (by kernel_rfl) ?_;simp only [List.drop_succ_cons,List.drop_zero];clear HRA HRB HRC HRF HV5 HV6 a0 a1 a2 b0 b1 b2 c0' c1' c2' e0 e1 e2 eL lC lH d1 d2 dL HD1 HD2 HD3 HD4 HD5 HD6;obtain ⟨ng,X,n3,c8,Y,m2,d2,rfl,hv0⟩:=HV8.out;obtain ⟨_,_,_,_,_,_,_,hkg,_⟩:=HFB.out;have HFS:=ze (VB HFB.out HV8.out);rw [<- HST.out] at HFS;have HBS:=ze (zZ (ng:=ng) (A:=X) (n:=n3) (c:=c8) (B:=Y) (m:=m2) (d:=d2) HB.out (Nat.le_refl _));have f0:=hkg.frozen 0;have f1:=hkg.frozen 1;have f2:=hkg.frozen 2;have u0:=hkg.cell 0;have u1:=hkg.cell 1;have u2:=hkg.cell 2;simp at u0 u1 u2;clear hv0 hkg HFB HB HV8 hb5 hb6 hb8;go_wp2_with fail;go_roundw
       case rel=>exact ⟨i+1,by omega,by go_num,HFS,HBS⟩
       case measure=>simp [intOf];omega
     rw [if_neg hp1] at hst
     have hI1:((n.pf i:Int) == (an:Int))=false:=by rw [beq_eq_false_iff_ne];omega
     clear hp1
     by_cases hp2:n.pt i=an
     rotate_left
     . rw [if_neg hp2] at hst
       have hI2:((n.pt i:Int) == (an:Int))=false:=by rw [beq_eq_false_iff_ne];omega
       have HFN:Hid (zas wr w7.heap.size (yA (i+1) n.pf n.pt (zl cs) h an)):=by rw [hst];exact HFB
       have hx:=zg wr (.cells #[str n.pipes[i].name,.int .i64 (n.pf i:Int),.int .i64 (n.pt i:Int),str n.pipes[i].low,str n.pipes[i].high] 41);have HFS:=ze (HFN.out.below hx);have HBS:=ze (ext HB.out hx);clear hst s0 hcs hne hp2 hf0 ht0 hx HFN HFB HB;go_wp2_with fail;go_roundw
       case rel=>exact ⟨i+1,by omega,by go_num,HFS,HBS⟩
       case measure=>simp [intOf];omega
     rw [if_pos hp2] at hst
     have hI2:((n.pt i:Int) == (an:Int))=true:=by rw [beq_iff_eq,hp2]
     clear hp2
     go_upto_region 21 with fail
     have hx:=zg wr (.cells #[str n.pipes[i].name,.int .i64 (n.pf i:Int),.int .i64 (n.pt i:Int),str n.pipes[i].low,str n.pipes[i].high] 41);have HP:=ze (Blk.new wr 41 #[str n.pipes[i].name,.int .i64 (n.pf i:Int),.int .i64 (n.pt i:Int),str n.pipes[i].low,str n.pipes[i].high]);clear p0 p1 p2 p3 p4 hb r0 r1 r2 r3 rL;replace HFB:=ze (zas.below HFB.out hx);replace HB:=eb_ HB hx;clear hx;generalize wr.alloc (.cells #[str n.pipes[i].name,.int .i64 (n.pf i:Int),.int .i64 (n.pt i:Int),str n.pipes[i].low,str n.pipes[i].high] 41)=WP at HP HFB HB |-;generalize wr.heap.size=q at HP |-;have d1:=HP.out.cell 1;have d2:=HP.out.cell 2;have dL:=HP.out.lt;simp only [List.getElem?_toArray,List.getElem?_cons_succ,List.getElem?_cons_zero] at d1 d2;obtain ⟨gc,eC,lC,nc,Xc,xc,yc,Zc,zc,tc,c0',c1',c2',hrc⟩:=(HV1.out.below HB.out).at_ hin;subst eC;obtain ⟨gh,eH,lH,na,Xa,xa,ya,Za,za,ta,a0,a1,a2,hra⟩:=(HNH.out.below HB.out).at_ HAN2.out;subst eH;obtain ⟨gh',eH,_,nb,Xb,xb,yb,Zb,zb,tb,b0,b1,b2,hrb⟩:=(HNH.out.below HB.out).at_ hf0;injection eH with eH
     injection eH with eH
     subst eH;obtain ⟨nf,Xf,xf,yf,Zf,zf,tf,hkf,hrf⟩:=HFB.out;have e0:=hkf.cell 0;have e1:=hkf.cell 1;have e2:=hkf.cell 2;simp at e0 e1 e2;have eL:=hkf.lt;have HRA:=ze hra;have HRB:=ze hrb;have HRC:=ze hrc;have HRF:=ze hrf;have HD1:=ze (yl (Dz.short (HCO.out.get HAN2.out) (by omega)));have HD2:=ze (yl (Dz.short (HCO.out.get hf0) (by omega)));have HD3:=ze (yl (HCO.out.diff (by omega) HAN2.out hf0));have HD4:=ze (yl hcs);have HD5:=ze (yl (HT.out.short (by omega) hin HAN2.out hf0));have HD6:=ze (yl s0);have HST:=ze hst;clear hra hrb hrc hrf hkf s0 hcs hst hne HP
     refine yg (S:=fun w' =>Hid (Below WP.heap.size WP w')/\w'.cell? ⟨q,1,none⟩=some (.int .i64 (n.pf i:Int))/\w'.cell? ⟨q,2,none⟩=some (.int .i64 (n.pt i:Int))/\w'.cell? ⟨gc,i*3,none⟩=some (.bool nc)/\w'.cell? ⟨gc,i*3+1,none⟩=some (.slice Xc xc yc)/\w'.cell? ⟨gc,i*3+2,none⟩=some (.slice Zc zc tc)/\w'.cell? ⟨gh,an*3,none⟩=some (.bool na)/\w'.cell? ⟨gh,an*3+1,none⟩=some (.slice Xa xa ya)/\w'.cell? ⟨gh,an*3+2,none⟩=some (.slice Za za ta)/\w'.cell? ⟨gh,n.pf i*3,none⟩=some (.bool nb)/\w'.cell? ⟨gh,n.pf i*3+1,none⟩=some (.slice Xb xb yb)/\w'.cell? ⟨gh,n.pf i*3+2,none⟩=some (.slice Zb zb tb)/\w'.cell? ⟨w7.heap.size,0,none⟩=some (.bool nf)/\w'.cell? ⟨w7.heap.size,1,none⟩=some (.slice Xf xf yf)/\w'.cell? ⟨w7.heap.size,2,none⟩=some (.slice Zf zf tf)) 14 3 17 rfl (by kernel_rfl) (by kernel_rfl) (by kernel_rfl) rfl (zx (z8 WP) (fun hB=>⟨zk hB dL d1,zk hB dL d2,zk hB lC c0',zk hB lC c1',zk hB lC c2',zk hB lH a0,zk hB lH a1,zk hB lH a2,zk hB lH b0,zk hB lH b1,zk hB lH b2,zk hB eL e0,zk hB eL e1,zk hB eL e2⟩)) ?_ (fun hHeld=>?_)
     . intro _ _ _ _ _ h9;exact h9
     simp only [List.take_succ_cons,List.take_zero]
     iterate 14 (refine xz (v:=?_) ?_ ?_;rotate_left;(focus (as_aux_lemma=>(intro w9 hSw;(try dsimp only at hSw);go_split_ands;go_simp;try with_reducible rfl)));try simp only [Act.put,List.setIfInBounds_toArray,List.set_cons_zero,List.set_cons_succ])
     refine vk ?_;refine HH.ready (rs:=[14]) (by kernel_rfl) (by simp) (by kernel_rfl) ?_;refine zT.cons (o:=_) rfl (fun K hK=>?_) zT.nil
     go_simp
     go_at_call 33;refine (XF _ _ _ _ _ (HRA.out.below (z8 WP).out) (HRB.out.below (z8 WP).out) HD1.out HD2.out).mono ?_;rintro e w5 ⟨v5,rfl,hv5,hb5⟩;have HV5:=ze hv5;clear hv5;have hH0:=hHeld;clear hHeld;refine hK.out _ _ (zx (zu hb5 hH0.1) (fun hB=>⟨zk hB dL d1,zk hB dL d2,zk hB lC c0',zk hB lC c1',zk hB lC c2',zk hB lH a0,zk hB lH a1,zk hB lH a2,zk hB lH b0,zk hB lH b1,zk hB lH b2,zk hB eL e0,zk hB eL e1,zk hB eL e2⟩)) (fun hHeld=>?_);clear hH0 hK K
     try simp only [Act.put,List.setIfInBounds_toArray,List.set_cons_zero,List.set_cons_succ]
     refine HH.ready (rs:=[15]) (by kernel_rfl) (by simp) (by kernel_rfl) ?_;refine zT.cons (o:=_) rfl (fun K hK=>?_) zT.nil
     go_simp
     go_at_call 32;refine (Zp _ _ _ _ _ (HRC.out.below hHeld.1.out) HV5.out HD4.out HD3.out).mono ?_;rintro e w6 ⟨v6,rfl,hv6,hb6⟩;have HV6:=ze hv6;clear hv6;have hH0:=hHeld;clear hHeld;refine hK.out _ _ (zx (zu hb6 hH0.1) (fun hB=>⟨zk hB dL d1,zk hB dL d2,zk hB lC c0',zk hB lC c1',zk hB lC c2',zk hB lH a0,zk hB lH a1,zk hB lH a2,zk hB lH b0,zk hB lH b1,zk hB lH b2,zk hB eL e0,zk hB eL e1,zk hB eL e2⟩)) (fun hHeld=>?_);clear hH0 hK K
     try simp only [Act.put,List.setIfInBounds_toArray,List.set_cons_zero,List.set_cons_succ]
     refine HH.ready (rs:=[16]) (by kernel_rfl) (by simp) (by kernel_rfl) ?_;refine zT.cons (o:=_) rfl (fun K hK=>?_) zT.nil
     go_simp
     go_at_call 31;refine (vz _ _ _ _ _ (HRF.out.below hHeld.1.out) HV6.out HD6.out HD5.out).mono ?_;rintro e w8 ⟨v8,rfl,hv8,hb8⟩;have HV8:=ze hv8;clear hv8;have hH0:=hHeld;clear hHeld;refine hK.out _ _ (zx (zu hb8 hH0.1) (fun hB=>⟨zk hB dL d1,zk hB dL d2,zk hB lC c0',zk hB lC c1',zk hB lC c2',zk hB lH a0,zk hB lH a1,zk hB lH a2,zk hB lH b0,zk hB lH b1,zk hB lH b2,zk hB eL e0,zk hB eL e1,zk hB eL e2⟩)) (fun hHeld=>?_);clear hH0 hK K
     try simp only [Act.put,List.setIfInBounds_toArray,List.set_cons_zero,List.set_cons_succ]
     have HBY:=(hHeld.1).out;replace HFB:=ze (zas.below HFB.out HBY);replace HB:=eb_ HB HBY;clear HBY hHeld;refine HH.done (by kernel_rfl) ?_;simp only [List.drop_succ_cons,List.drop_zero];clear HRA HRB HRC HRF HV5 HV6 a0 a1 a2 b0 b1 b2 c0' c1' c2' e0 e1 e2 eL lC lH d1 d2 dL HD1 HD2 HD3 HD4 HD5 HD6;obtain ⟨ng,X,n3,c8,Y,m2,d2,rfl,hv0⟩:=HV8.out;obtain ⟨_,_,_,_,_,_,_,hkg,_⟩:=HFB.out;have HFS:=ze (VB HFB.out HV8.out);rw [<- HST.out] at HFS;have HBS:=ze (zZ (ng:=ng) (A:=X) (n:=n3) (c:=c8) (B:=Y) (m:=m2) (d:=d2) HB.out (Nat.le_refl _));have f0:=hkg.frozen 0;have f1:=hkg.frozen 1;have f2:=hkg.frozen 2;have u0:=hkg.cell 0;have u1:=hkg.cell 1;have u2:=hkg.cell 2;simp at u0 u1 u2;clear hv0 hkg HFB HB HV8 hb5 hb6 hb8;go_wp2_with fail;go_roundw
     case rel=>exact ⟨i+1,by omega,by go_num,HFS,HBS⟩
     case measure=>simp [intOf];omega
section
variable {n:Net} {a b m:Int} {gs:List (List UInt8)}
theorem zdp (h:n.err≠0):xj n a b gs m=n.err:=by unfold xj;rw [if_pos h]
theorem zds (h0:n.err=0) (h:xY n a b≠0):xj n a b gs m=xY n a b:=by unfold xj;rw [if_neg (by simp [h0]),if_pos h]
theorem zdl (h0:n.err=0) (h1:xY n a b=0) (h:(gs.length:Int)≠m):xj n a b gs m=1:=by unfold xj;rw [if_neg (by simp [h0]),if_neg (by simp [h1]),if_pos h]
theorem zdh (h0:n.err=0) (h1:xY n a b=0) (h2:(gs.length:Int)=m) (h:∃ j,j<gs.length/\(zp (gs.getD j [])).isSome=false):xj n a b gs m=4:=by
 unfold xj
 rw [if_neg (by simp [h0]),if_neg (by simp [h1]),if_neg (by simp [h2]),if_pos]
 obtain ⟨j,hj,h3⟩:=h
 refine ⟨gs[j],List.getElem_mem hj,?_⟩
 rwa [show gs.getD j []=gs[j] by simp [List.getD,List.getElem?_eq_getElem hj]] at h3
theorem znu (h0:n.err=0) (h1:xY n a b=0) (h2:(gs.length:Int)=m) (h:∀ j,j<gs.length->(zp (gs.getD j [])).isSome=true):xj n a b gs m=0:=by
 unfold xj
 rw [if_neg (by simp [h0]),if_neg (by simp [h1]),if_neg (by simp [h2]),if_neg]
 rintro ⟨g,hg,h3⟩
 obtain ⟨j,hj,rfl⟩:=List.getElem_of_mem hg
 have h4:=h j hj
 rw [show gs.getD j []=gs[j] by simp [List.getD,List.getElem?_eq_getElem hj],h3] at h4
 cases h4
theorem zdo (h:xj n a b gs n.nodes.length≠0):VM n a b gs=xj n a b gs n.nodes.length:=by unfold VM;rw [if_pos h]
theorem zuw (h:xj n a b gs n.nodes.length=0):VM n a b gs=if gs.getD a.toNat []≠[49]\/gs.getD b.toNat []≠[48] then 8 else 0:=by unfold VM;rw [if_neg (by simp [h])]
theorem zlq {q:Rat} (h:q≠0):(q.num.sign != 0)=true:=by
 rw [bne_iff_ne]
 intro e
 exact h (by have:=Int.sign_eq_zero_iff_zero.1 e;exact Rat.num_eq_zero.1 this)
end
theorem zr9 (vn vg:Value) (n:Net) (a b:Int) (gs:List (List UInt8)) (w:World) (hn:Zw w vn n) (hg:yY w vg gs) (hsz:n.err=0->n.nodes.length<=6/\n.pipes.length<=9)
 (hcom:xj n a b gs n.nodes.length=0->xB n.nodes.length (zl gs) 12735):
 Calls Tryz.prog 10 #[vn,.int .i64 a,.int .i64 b,vg] w (znd n gs (VM n a b gs) w):=by
 have HNET:=ze hn
 have HGN:=ze hg
 have HSZ:=ze hsz
 have HCM:=ze hcom
 obtain ⟨A0,k0,c0,A1,k1,c1,A2,k2,c2,A3,k3,c3,rfl,hn0,hn1,hn2,hn3⟩:=hn
 obtain ⟨Ag,cg,rfl,_⟩:=hg
 have hk0:k0=n.nodes.length:=by obtain ⟨A',c',e,_⟩:=hn0;injection e
 have hk1:k1=n.pipes.length:=by obtain ⟨A',c',e,_⟩:=hn1;injection e
 have hck:=fun w' (h:Below w.heap.size w w')=>zdy (.agg #[.slice A0 k0 c0,.slice A1 k1 c1,.slice A2 k2 c2,.slice A3 k3 c3]) n w' (HNET.out.below h)
 have hap:=fun w' (h:Below w.heap.size w w') (h0:n.err=0)=>zej (.agg #[.slice A0 k0 c0,.slice A1 k1 c1,.slice A2 k2 c2,.slice A3 k3 c3]) n a b w' (HNET.out.below h) h0
 have hnm:=fun w' (h:Below w.heap.size w w')=>zdx (.slice Ag gs.length cg) gs w' (HGN.out.below h)
 obtain ⟨ev,HEV⟩:∃ ev,Hid (n.err=ev):=⟨_,ze rfl⟩
 obtain ⟨zv,HZV⟩:∃ zv,Hid (xY n a b=zv):=⟨_,ze rfl⟩
 obtain ⟨y,HY⟩:∃ y,Hid (VM n a b gs=y):=⟨_,ze rfl⟩
 rw [HY.out]
 rw [HEV.out] at hck
 rw [HZV.out] at hap
 have HCK:=ze hck
 have HAP:=ze hap
 have HNM:=ze hnm
 have HP1:=ze hn1
 have HK0:=ze hk0
 have HK1:=ze hk1
 have HW:=ze (zg w (.cells #[.slice A0 k0 c0,.slice A1 k1 c1,.slice A2 k2 c2,.slice A3 k3 c3] 26))
 have HK:=ze (Blk.new w 26 #[.slice A0 k0 c0,.slice A1 k1 c1,.slice A2 k2 c2,.slice A3 k3 c3])
 clear hn0 hn1 hn2 hn3 hck hap hnm hsz hcom hk0 hk1
 obtain ⟨r0,r1,r2,r3,rL⟩:=yG HK.out
 go_enter Tryz.func10,Tryz.ntmps10
 go_wp2_with fail
 refine (HCK.out _ HW.out).mono ?_
 rintro e WN ⟨rfl,hbB⟩
 try clear r0 r1 r2 r3 rL
 replace HK:=kb_ HK hbB
 replace HW:=eb_ HW hbB
 clear hbB
 obtain ⟨r0,r1,r2,r3,rL⟩:=yG HK.out
 by_cases h0:ev=0
 rotate_left
 . have hI:(ev != 0)=true:=by rw [bne_iff_ne];exact h0
   have HNE:=ze h0;have HF:Hid (y=ev):=ze (by rw [<- HY.out,zdo (by rw [zdp (by rw [HEV.out];exact h0),HEV.out];exact h0),zdp (by rw [HEV.out];exact h0),HEV.out]);clear h0;go_wp2_with fail;go_ret2;have h9:=HF.out;subst h9;exact ⟨HW.out,.inl ⟨HNE.out,rfl⟩⟩
 subst h0
 have HN0:Hid (n.err=0):=ze (by rw [HEV.out]);go_wp2_with fail;refine (HAP.out _ HW.out HN0.out).mono ?_;rintro e WN ⟨rfl,hbB⟩
 try clear r0 r1 r2 r3 rL
 replace HK:=kb_ HK hbB;replace HW:=eb_ HW hbB;clear hbB;obtain ⟨r0,r1,r2,r3,rL⟩:=yG HK.out
 by_cases hz0:zv=0
 rotate_left
 . have hI:(zv != 0)=true:=by rw [bne_iff_ne];exact hz0
   have HNE:=ze hz0;have HF:Hid (y=zv):=ze (by rw [<- HY.out,zdo (by rw [zds HN0.out (by rw [HZV.out];exact hz0),HZV.out];exact hz0),zds HN0.out (by rw [HZV.out];exact hz0),HZV.out]);clear hz0;go_wp2_with fail;go_ret2;have h9:=HF.out;subst h9;exact ⟨HW.out,.inl ⟨HNE.out,rfl⟩⟩
 subst hz0
 have HE0:Hid (xY n a b=0):=ze (by rw [HZV.out])
 by_cases hlen:gs.length=k0
 rotate_left
 . have hI:((gs.length:Int) != (k0:Int))=true:=by rw [bne_iff_ne];omega
   have HLN:Hid ((gs.length:Int)≠(n.nodes.length:Nat)):=ze (by have:=HK0.out;have:=HK1.out;omega);have HF:Hid (y=1):=ze (by rw [<- HY.out,zdo (by rw [zdl HN0.out HE0.out HLN.out];decide),zdl HN0.out HE0.out HLN.out]);clear hlen;go_wp2_with fail;go_ret2;have h9:=HF.out;subst h9;exact ⟨HW.out,.inl ⟨by decide,rfl⟩⟩
 have HLEN:Hid (gs.length=n.nodes.length):=ze (by have:=HK0.out;have:=HK1.out;omega)
 have hI:((gs.length:Int) != (k0:Int))=false:=by rw [bne_eq_false_iff_eq];omega
 clear hlen;go_wp2_with fail;refine (HNM.out _ HW.out).mono ?_;rintro e w5 ⟨hb5,hor⟩;clear r0 r1 r2 r3 rL hI;replace HK:=kb_ HK hb5;replace HW:=eb_ HW hb5;clear hb5
 rcases hor with ⟨hbad,rfl⟩ | ⟨hall,v5,rfl,hv5⟩
 . have HF:Hid (y=4):=ze (by rw [<- HY.out,zdo (by rw [zdh HN0.out HE0.out (by have:=HLEN.out;omega) hbad];decide),zdh HN0.out HE0.out (by have:=HLEN.out;omega) hbad])
   clear hbad;go_wp2_with fail;go_ret2;have h9:=HF.out;subst h9;exact ⟨HW.out,.inl ⟨by decide,rfl⟩⟩
 . have HG0:Hid (xj n a b gs n.nodes.length=0):=ze (znu HN0.out HE0.out (by have:=HLEN.out;omega) hall)
   have HV:=ze hv5;clear hall hv5;obtain ⟨AV,capV,hve,_⟩:=HV.out;subst hve;have HGS:=ze (Vr HG0.out).2.2.2;have HCO:=ze (HCM.out HG0.out);have HEN:=ze (Net.err_zero HN0.out).1.1.1.ends;have HP3:=ze (Net.err_zero HN0.out).1.1.1;have HNP:=ze (HSZ.out HN0.out).2;have hk9:k1<=9:=by have:=HNP.out;have:=HK1.out;omega
   have he:=Yj HE0.out;obtain ⟨an,ha⟩:∃ an:Nat,a=(an:Int):=⟨a.toNat,by omega⟩;obtain ⟨bn,hb⟩:∃ bn:Nat,b=(bn:Int):=⟨b.toNat,by omega⟩;subst ha;subst hb;have HE:=ze he;clear he HCK HAP HNM HCM;have han:an<gs.length:=by have:=HE.out;have:=HLEN.out;omega
   have hbn:bn<gs.length:=by have:=HE.out;have:=HLEN.out;omega
   have hai:(an:Int)<(gs.length:Int):=by omega
   have hbi:(bn:Int)<(gs.length:Int):=by omega
   obtain ⟨gh,eH,lH,na,Xa,xa,ya,Za,za,ta,a0,a1,a2,hra⟩:=HV.out.at_ han;subst eH;obtain ⟨gh',eH,_,nb,Xb,xb,yb,Zb,zb,tb,b0,b1,b2,hrb⟩:=HV.out.at_ hbn;injection eH with eH
   injection eH with eH
   subst eH;have HRA:=ze hra;have HRB:=ze hrb;have HLA:=ze (yl (HGS.out _ han).2);have HL1:=ze (yl (q:=1) (Dz.short zcy (by omega)));have HTA:Hid (gs.getD an []=zh (zl gs an)):=ze (by rw [show gs.getD an []=gs[an] by simp [List.getD,List.getElem?_eq_getElem han]];exact (HGS.out _ han).1);have HTB:Hid (gs.getD bn []=zh (zl gs bn)):=ze (by rw [show gs.getD bn []=gs[bn] by simp [List.getD,List.getElem?_eq_getElem hbn]];exact (HGS.out _ hbn).1)
   have HY2:Hid (y=if zh (zl gs an)≠zh 1\/zh (zl gs bn)≠zh 0 then 8 else 0):=ze (by
    rw [<- HY.out,zuw HG0.out,ZZ,vX, <- HTA.out, <- HTB.out]
    rfl)
   clear hra hrb han hbn HTA HTB HY;obtain ⟨r0,r1,r2,r3,rL⟩:=yG HK.out
   by_cases g1:zl gs an=1
   rotate_left
   . have hI1:((zl gs an - 1).num.sign != 0)=true:=zlq (fun h=>g1 (by grind))
     have HF:Hid (y=8):=ze (by rw [HY2.out,if_pos (.inl (fun h=>g1 (vZ h)))]);clear HY2 g1
     go_upto_region 12 with fail
     refine yh (S:=fun w' =>Hid (Below w5.heap.size w5 w')/\w'.cell? ⟨w.heap.size,0,none⟩=some (.slice A0 k0 c0)/\w'.cell? ⟨gh,an*3,none⟩=some (.bool na)/\w'.cell? ⟨gh,an*3+1,none⟩=some (.slice Xa xa ya)/\w'.cell? ⟨gh,an*3+2,none⟩=some (.slice Za za ta)/\w'.cell? ⟨gh,bn*3,none⟩=some (.bool nb)/\w'.cell? ⟨gh,bn*3+1,none⟩=some (.slice Xb xb yb)/\w'.cell? ⟨gh,bn*3+2,none⟩=some (.slice Zb zb tb)) 14 (by kernel_rfl) (by kernel_rfl) (zx (z8 w5) (fun hB=>⟨zk hB rL r0,zk hB lH a0,zk hB lH a1,zk hB lH a2,zk hB lH b0,zk hB lH b1,zk hB lH b2⟩)) (fun hHeld=>?_);refine HH.take 0 (oi:=_) (v:=?_) rfl (by kernel_rfl) (by kernel_rfl) (by kernel_rfl) (fun _ _ _ h=>h) (Or.inl ⟨by rfl,?_⟩) ‹_› ?_;rotate_left
     . (intro w9 hSw;(try dsimp only at hSw);go_split_ands;go_simp;try with_reducible rfl)
     try simp only [Act.put,List.setIfInBounds_toArray,List.set_cons_zero,List.set_cons_succ]
     refine HH.take 1 (oi:=_) (v:=?_) rfl (by kernel_rfl) (by kernel_rfl) (by kernel_rfl) (fun _ _ _ h=>h) (Or.inl ⟨by rfl,?_⟩) ‹_› ?_;rotate_left
     . (intro w9 hSw;(try dsimp only at hSw);go_split_ands;go_simp;try with_reducible rfl)
     try simp only [Act.put,List.setIfInBounds_toArray,List.set_cons_zero,List.set_cons_succ]
     refine HH.take 2 (oi:=_) (v:=?_) rfl (by kernel_rfl) (by kernel_rfl) (by kernel_rfl) (fun _ _ _ h=>h) (Or.inl ⟨by rfl,?_⟩) ‹_› ?_;rotate_left
     . (intro w9 hSw;(try dsimp only at hSw);go_split_ands;go_simp;try with_reducible rfl)
     try simp only [Act.put,List.setIfInBounds_toArray,List.set_cons_zero,List.set_cons_succ]
     refine HH.take 3 (oi:=_) (v:=?_) rfl (by kernel_rfl) (by kernel_rfl) (by kernel_rfl) (fun _ _ _ h=>h) (Or.inl ⟨by rfl,?_⟩) ‹_› ?_;rotate_left
     . (intro w9 hSw;(try dsimp only at hSw);go_split_ands;go_simp;try with_reducible rfl)
     try simp only [Act.put,List.setIfInBounds_toArray,List.set_cons_zero,List.set_cons_succ]
     refine HH.ready (rs:=[4]) (by kernel_rfl) (by simp) (by kernel_rfl) ?_;refine zT.cons (o:=_) rfl (fun K hK=>?_) zT.nil
     go_simp
     go_at_call 30;refine (zb0 _).mono ?_;rintro e w6 ⟨v6,rfl,hv6,hb6⟩;have HV6:=ze hv6;clear hv6;have hH0:=hHeld;clear hHeld;refine hK.out _ _ (zx (zu hb6 hH0.1) (fun hB=>⟨zk hB rL r0,zk hB lH a0,zk hB lH a1,zk hB lH a2,zk hB lH b0,zk hB lH b1,zk hB lH b2⟩)) (fun hHeld=>?_);clear hH0 hK K
     try simp only [Act.put,List.setIfInBounds_toArray,List.set_cons_zero,List.set_cons_succ]
     refine HH.ready (rs:=[5]) (by kernel_rfl) (by simp) (by kernel_rfl) ?_;refine zT.cons (o:=_) rfl (fun K hK=>?_) zT.nil
     go_simp
     go_at_call 37;refine (Zo _ _ _ _ _ (HRA.out.below hHeld.1.out) HV6.out HLA.out HL1.out).mono ?_;rintro e w7 ⟨rfl,hb7⟩;have hH0:=hHeld;clear hHeld;refine hK.out _ _ (zx (zu hb7 hH0.1) (fun hB=>⟨zk hB rL r0,zk hB lH a0,zk hB lH a1,zk hB lH a2,zk hB lH b0,zk hB lH b1,zk hB lH b2⟩)) (fun hHeld=>?_);clear hH0 hK K
     try simp only [Act.put,List.setIfInBounds_toArray,List.set_cons_zero,List.set_cons_succ]
     refine HH.take 6 (oi:=_) (v:=?_) rfl (by kernel_rfl) (by kernel_rfl) (by kernel_rfl) (fun _ _ _ h=>h) (Or.inl ⟨by rfl,?_⟩) ‹_› ?_;rotate_left
     . (intro w9 hSw;(try dsimp only at hSw);go_split_ands;go_simp;try with_reducible rfl)
     try simp only [Act.put,List.setIfInBounds_toArray,List.set_cons_zero,List.set_cons_succ]
     refine HH.take 7 (oi:=_) (v:=?_) rfl (by kernel_rfl) (by kernel_rfl) (by kernel_rfl) (fun _ _ _ h=>h) (Or.inl ⟨by rfl,?_⟩) ‹_› ?_;rotate_left
     . (intro w9 hSw;(try dsimp only at hSw);go_split_ands;go_simp;try with_reducible rfl)
     try simp only [Act.put,List.setIfInBounds_toArray,List.set_cons_zero,List.set_cons_succ]
     refine HH.take 8 (oi:=_) (v:=_) rfl (by kernel_rfl) (by kernel_rfl) (by kernel_rfl) (fun _ _ _ h=>h) (Or.inr ⟨by rfl,rfl⟩) ‹_› ?_
     try simp only [Act.put,List.setIfInBounds_toArray,List.set_cons_zero,List.set_cons_succ]
     refine HH.take 9 (oi:=_) (v:=_) rfl (by kernel_rfl) (by kernel_rfl) (by kernel_rfl) (fun _ _ _ h=>h) (Or.inr ⟨by rfl,rfl⟩) ‹_› ?_
     try simp only [Act.put,List.setIfInBounds_toArray,List.set_cons_zero,List.set_cons_succ]
     refine HH.take 10 (oi:=_) (v:=_) rfl (by kernel_rfl) (by kernel_rfl) (by kernel_rfl) (fun _ _ _ h=>h) (Or.inr ⟨by rfl,rfl⟩) ‹_› ?_
     try simp only [Act.put,List.setIfInBounds_toArray,List.set_cons_zero,List.set_cons_succ]
     refine HH.take 11 (oi:=_) (v:=_) rfl (by kernel_rfl) (by kernel_rfl) (by kernel_rfl) (fun _ _ _ h=>h) (Or.inr ⟨by rfl,rfl⟩) ‹_› ?_
     try simp only [Act.put,List.setIfInBounds_toArray,List.set_cons_zero,List.set_cons_succ]
     refine HH.take 12 (oi:=_) (v:=_) rfl (by kernel_rfl) (by kernel_rfl) (by kernel_rfl) (fun _ _ _ h=>h) (Or.inr ⟨by rfl,rfl⟩) ‹_› ?_
     try simp only [Act.put,List.setIfInBounds_toArray,List.set_cons_zero,List.set_cons_succ]
     refine HH.take 13 (oi:=_) (v:=_) rfl (by kernel_rfl) (by kernel_rfl) (by kernel_rfl) (fun _ _ _ h=>h) (Or.inr ⟨by rfl,rfl⟩) ‹_› ?_
     try simp only [Act.put,List.setIfInBounds_toArray,List.set_cons_zero,List.set_cons_succ]
     have HBY:=(hHeld.1).out
     try clear r0 r1 r2 r3 rL
     replace HK:=kb_ HK HBY;replace HV:=ze (xT.below HV.out HBY);replace HW:=eb_ HW HBY;clear HBY hHeld;refine HH.done (by kernel_rfl) ?_;simp only [List.drop_succ_cons,List.drop_zero];obtain ⟨r0,r1,r2,r3,rL⟩:=yG HK.out;clear a0 a1 a2 b0 b1 b2 lH HRA HRB HLA HL1;go_wp2_with fail;go_ret2;have h9:=HF.out;subst h9;exact ⟨HW.out,.inl ⟨by decide,rfl⟩⟩
   have e1:(zl gs an - 1).num.sign=0:=by rw [show zl gs an - 1=0 by rw [g1];grind];rfl
   have hI1:((zl gs an - 1).num.sign != 0)=false:=by rw [e1];rfl
   by_cases g2:zl gs bn=0
   rotate_left
   . have hI2:((zl gs bn).num.sign != 0)=true:=zlq g2
     have HF:Hid (y=8):=ze (by rw [HY2.out,if_pos (.inr (fun h=>g2 (vZ h)))]);clear HY2 e1 g1 g2
     go_upto_region 12 with fail
     refine yh (S:=fun w' =>Hid (Below w5.heap.size w5 w')/\w'.cell? ⟨w.heap.size,0,none⟩=some (.slice A0 k0 c0)/\w'.cell? ⟨gh,an*3,none⟩=some (.bool na)/\w'.cell? ⟨gh,an*3+1,none⟩=some (.slice Xa xa ya)/\w'.cell? ⟨gh,an*3+2,none⟩=some (.slice Za za ta)/\w'.cell? ⟨gh,bn*3,none⟩=some (.bool nb)/\w'.cell? ⟨gh,bn*3+1,none⟩=some (.slice Xb xb yb)/\w'.cell? ⟨gh,bn*3+2,none⟩=some (.slice Zb zb tb)) 14 (by kernel_rfl) (by kernel_rfl) (zx (z8 w5) (fun hB=>⟨zk hB rL r0,zk hB lH a0,zk hB lH a1,zk hB lH a2,zk hB lH b0,zk hB lH b1,zk hB lH b2⟩)) (fun hHeld=>?_);refine HH.take 0 (oi:=_) (v:=?_) rfl (by kernel_rfl) (by kernel_rfl) (by kernel_rfl) (fun _ _ _ h=>h) (Or.inl ⟨by rfl,?_⟩) ‹_› ?_;rotate_left
     . (intro w9 hSw;(try dsimp only at hSw);go_split_ands;go_simp;try with_reducible rfl)
     try simp only [Act.put,List.setIfInBounds_toArray,List.set_cons_zero,List.set_cons_succ]
     refine HH.take 1 (oi:=_) (v:=?_) rfl (by kernel_rfl) (by kernel_rfl) (by kernel_rfl) (fun _ _ _ h=>h) (Or.inl ⟨by rfl,?_⟩) ‹_› ?_;rotate_left
     . (intro w9 hSw;(try dsimp only at hSw);go_split_ands;go_simp;try with_reducible rfl)
     try simp only [Act.put,List.setIfInBounds_toArray,List.set_cons_zero,List.set_cons_succ]
     refine HH.take 2 (oi:=_) (v:=?_) rfl (by kernel_rfl) (by kernel_rfl) (by kernel_rfl) (fun _ _ _ h=>h) (Or.inl ⟨by rfl,?_⟩) ‹_› ?_;rotate_left
     . (intro w9 hSw;(try dsimp only at hSw);go_split_ands;go_simp;try with_reducible rfl)
     try simp only [Act.put,List.setIfInBounds_toArray,List.set_cons_zero,List.set_cons_succ]
     refine HH.take 3 (oi:=_) (v:=?_) rfl (by kernel_rfl) (by kernel_rfl) (by kernel_rfl) (fun _ _ _ h=>h) (Or.inl ⟨by rfl,?_⟩) ‹_› ?_;rotate_left
     . (intro w9 hSw;(try dsimp only at hSw);go_split_ands;go_simp;try with_reducible rfl)
     try simp only [Act.put,List.setIfInBounds_toArray,List.set_cons_zero,List.set_cons_succ]
     refine HH.ready (rs:=[4]) (by kernel_rfl) (by simp) (by kernel_rfl) ?_;refine zT.cons (o:=_) rfl (fun K hK=>?_) zT.nil
     go_simp
     go_at_call 30;refine (zb0 _).mono ?_;rintro e w6 ⟨v6,rfl,hv6,hb6⟩;have HV6:=ze hv6;clear hv6;have hH0:=hHeld;clear hHeld;refine hK.out _ _ (zx (zu hb6 hH0.1) (fun hB=>⟨zk hB rL r0,zk hB lH a0,zk hB lH a1,zk hB lH a2,zk hB lH b0,zk hB lH b1,zk hB lH b2⟩)) (fun hHeld=>?_);clear hH0 hK K
     try simp only [Act.put,List.setIfInBounds_toArray,List.set_cons_zero,List.set_cons_succ]
     refine HH.ready (rs:=[5]) (by kernel_rfl) (by simp) (by kernel_rfl) ?_;refine zT.cons (o:=_) rfl (fun K hK=>?_) zT.nil
     go_simp
     go_at_call 37;refine (Zo _ _ _ _ _ (HRA.out.below hHeld.1.out) HV6.out HLA.out HL1.out).mono ?_;rintro e w7 ⟨rfl,hb7⟩;have hH0:=hHeld;clear hHeld;refine hK.out _ _ (zx (zu hb7 hH0.1) (fun hB=>⟨zk hB rL r0,zk hB lH a0,zk hB lH a1,zk hB lH a2,zk hB lH b0,zk hB lH b1,zk hB lH b2⟩)) (fun hHeld=>?_);clear hH0 hK K
     try simp only [Act.put,List.setIfInBounds_toArray,List.set_cons_zero,List.set_cons_succ]
     refine HH.take 6 (oi:=_) (v:=?_) rfl (by kernel_rfl) (by kernel_rfl) (by kernel_rfl) (fun _ _ _ h=>h) (Or.inl ⟨by rfl,?_⟩) ‹_› ?_;rotate_left
     . (intro w9 hSw;(try dsimp only at hSw);go_split_ands;go_simp;try with_reducible rfl)
     try simp only [Act.put,List.setIfInBounds_toArray,List.set_cons_zero,List.set_cons_succ]
     refine HH.take 7 (oi:=_) (v:=?_) rfl (by kernel_rfl) (by kernel_rfl) (by kernel_rfl) (fun _ _ _ h=>h) (Or.inl ⟨by rfl,?_⟩) ‹_› ?_;rotate_left
     . (intro w9 hSw;(try dsimp only at hSw);go_split_ands;go_simp;try with_reducible rfl)
     try simp only [Act.put,List.setIfInBounds_toArray,List.set_cons_zero,List.set_cons_succ]
     refine HH.take 8 (oi:=_) (v:=?_) rfl (by kernel_rfl) (by kernel_rfl) (by kernel_rfl) (fun _ _ _ h=>h) (Or.inl ⟨by rfl,?_⟩) ‹_› ?_;rotate_left
     . (intro w9 hSw;(try dsimp only at hSw);go_split_ands;go_simp;try with_reducible rfl)
     try simp only [Act.put,List.setIfInBounds_toArray,List.set_cons_zero,List.set_cons_succ]
     refine HH.take 9 (oi:=_) (v:=?_) rfl (by kernel_rfl) (by kernel_rfl) (by kernel_rfl) (fun _ _ _ h=>h) (Or.inl ⟨by rfl,?_⟩) ‹_› ?_;rotate_left
     . (intro w9 hSw;(try dsimp only at hSw);go_split_ands;go_simp;try with_reducible rfl)
     try simp only [Act.put,List.setIfInBounds_toArray,List.set_cons_zero,List.set_cons_succ]
     refine HH.take 10 (oi:=_) (v:=?_) rfl (by kernel_rfl) (by kernel_rfl) (by kernel_rfl) (fun _ _ _ h=>h) (Or.inl ⟨by rfl,?_⟩) ‹_› ?_;rotate_left
     . (intro w9 hSw;(try dsimp only at hSw);go_split_ands;go_simp;try with_reducible rfl)
     try simp only [Act.put,List.setIfInBounds_toArray,List.set_cons_zero,List.set_cons_succ]
     refine HH.take 11 (oi:=_) (v:=?_) rfl (by kernel_rfl) (by kernel_rfl) (by kernel_rfl) (fun _ _ _ h=>h) (Or.inl ⟨by rfl,?_⟩) ‹_› ?_;rotate_left
     . (intro w9 hSw;(try dsimp only at hSw);go_split_ands;go_simp;try with_reducible rfl)
     try simp only [Act.put,List.setIfInBounds_toArray,List.set_cons_zero,List.set_cons_succ]
     refine HH.ready (rs:=[12]) (by kernel_rfl) (by simp) (by kernel_rfl) ?_;refine zT.cons (o:=_) rfl (fun K hK=>?_) zT.nil;rw [if_pos (by rfl)]
     go_simp
     go_at_call 38;refine (YZ _ _ _ (HRB.out.below hHeld.1.out)).mono ?_;rintro e w8 ⟨rfl,hb8⟩;have hH0:=hHeld;clear hHeld;refine hK.out _ _ (zx (zu hb8 hH0.1) (fun hB=>⟨zk hB rL r0,zk hB lH a0,zk hB lH a1,zk hB lH a2,zk hB lH b0,zk hB lH b1,zk hB lH b2⟩)) (fun hHeld=>?_);clear hH0 hK K
     try simp only [Act.put,List.setIfInBounds_toArray,List.set_cons_zero,List.set_cons_succ]
     refine HH.take 13 (oi:=_) (v:=?_) rfl (by kernel_rfl) (by kernel_rfl) (by kernel_rfl) (fun _ _ _ h=>h) (Or.inl ⟨by rfl,?_⟩) ‹_› ?_;rotate_left
     . (intro w9 hSw;(try dsimp only at hSw);go_split_ands;go_simp;try with_reducible rfl)
     try simp only [Act.put,List.setIfInBounds_toArray,List.set_cons_zero,List.set_cons_succ]
     have HBY:=(hHeld.1).out
     try clear r0 r1 r2 r3 rL
     replace HK:=kb_ HK HBY;replace HV:=ze (xT.below HV.out HBY);replace HW:=eb_ HW HBY;clear HBY hHeld;refine HH.done (by kernel_rfl) ?_;simp only [List.drop_succ_cons,List.drop_zero];obtain ⟨r0,r1,r2,r3,rL⟩:=yG HK.out;clear a0 a1 a2 b0 b1 b2 lH HRA HRB HLA HL1;go_wp2_with fail;go_ret2;have h9:=HF.out;subst h9;exact ⟨HW.out,.inl ⟨by decide,rfl⟩⟩
   have e2:(zl gs bn).num.sign=0:=by rw [g2];rfl
   have hI2:((zl gs bn).num.sign != 0)=false:=by rw [e2];rfl
   have HF:Hid (y=0):=ze (by rw [HY2.out,if_neg];rintro (h | h);exact h (by rw [g1]);exact h (by rw [g2]));clear HY2 e1 e2 g1 g2
   go_upto_region 12 with fail
   refine yh (S:=fun w' =>Hid (Below w5.heap.size w5 w')/\w'.cell? ⟨w.heap.size,0,none⟩=some (.slice A0 k0 c0)/\w'.cell? ⟨gh,an*3,none⟩=some (.bool na)/\w'.cell? ⟨gh,an*3+1,none⟩=some (.slice Xa xa ya)/\w'.cell? ⟨gh,an*3+2,none⟩=some (.slice Za za ta)/\w'.cell? ⟨gh,bn*3,none⟩=some (.bool nb)/\w'.cell? ⟨gh,bn*3+1,none⟩=some (.slice Xb xb yb)/\w'.cell? ⟨gh,bn*3+2,none⟩=some (.slice Zb zb tb)) 14 (by kernel_rfl) (by kernel_rfl) (zx (z8 w5) (fun hB=>⟨zk hB rL r0,zk hB lH a0,zk hB lH a1,zk hB lH a2,zk hB lH b0,zk hB lH b1,zk hB lH b2⟩)) (fun hHeld=>?_);refine HH.take 0 (oi:=_) (v:=?_) rfl (by kernel_rfl) (by kernel_rfl) (by kernel_rfl) (fun _ _ _ h=>h) (Or.inl ⟨by rfl,?_⟩) ‹_› ?_;rotate_left
   . (intro w9 hSw;(try dsimp only at hSw);go_split_ands;go_simp;try with_reducible rfl)
   try simp only [Act.put,List.setIfInBounds_toArray,List.set_cons_zero,List.set_cons_succ]
   refine HH.take 1 (oi:=_) (v:=?_) rfl (by kernel_rfl) (by kernel_rfl) (by kernel_rfl) (fun _ _ _ h=>h) (Or.inl ⟨by rfl,?_⟩) ‹_› ?_;rotate_left
   . (intro w9 hSw;(try dsimp only at hSw);go_split_ands;go_simp;try with_reducible rfl)
   try simp only [Act.put,List.setIfInBounds_toArray,List.set_cons_zero,List.set_cons_succ]
   refine HH.take 2 (oi:=_) (v:=?_) rfl (by kernel_rfl) (by kernel_rfl) (by kernel_rfl) (fun _ _ _ h=>h) (Or.inl ⟨by rfl,?_⟩) ‹_› ?_;rotate_left
   . (intro w9 hSw;(try dsimp only at hSw);go_split_ands;go_simp;try with_reducible rfl)
   try simp only [Act.put,List.setIfInBounds_toArray,List.set_cons_zero,List.set_cons_succ]
   refine HH.take 3 (oi:=_) (v:=?_) rfl (by kernel_rfl) (by kernel_rfl) (by kernel_rfl) (fun _ _ _ h=>h) (Or.inl ⟨by rfl,?_⟩) ‹_› ?_;rotate_left
   . (intro w9 hSw;(try dsimp only at hSw);go_split_ands;go_simp;try with_reducible rfl)
   try simp only [Act.put,List.setIfInBounds_toArray,List.set_cons_zero,List.set_cons_succ]
   refine HH.ready (rs:=[4]) (by kernel_rfl) (by simp) (by kernel_rfl) ?_;refine zT.cons (o:=_) rfl (fun K hK=>?_) zT.nil
   go_simp
   go_at_call 30;refine (zb0 _).mono ?_;rintro e w6 ⟨v6,rfl,hv6,hb6⟩;have HV6:=ze hv6;clear hv6;have hH0:=hHeld;clear hHeld;refine hK.out _ _ (zx (zu hb6 hH0.1) (fun hB=>⟨zk hB rL r0,zk hB lH a0,zk hB lH a1,zk hB lH a2,zk hB lH b0,zk hB lH b1,zk hB lH b2⟩)) (fun hHeld=>?_);clear hH0 hK K
   try simp only [Act.put,List.setIfInBounds_toArray,List.set_cons_zero,List.set_cons_succ]
   refine HH.ready (rs:=[5]) (by kernel_rfl) (by simp) (by kernel_rfl) ?_;refine zT.cons (o:=_) rfl (fun K hK=>?_) zT.nil
   go_simp
   go_at_call 37;refine (Zo _ _ _ _ _ (HRA.out.below hHeld.1.out) HV6.out HLA.out HL1.out).mono ?_;rintro e w7 ⟨rfl,hb7⟩;have hH0:=hHeld;clear hHeld;refine hK.out _ _ (zx (zu hb7 hH0.1) (fun hB=>⟨zk hB rL r0,zk hB lH a0,zk hB lH a1,zk hB lH a2,zk hB lH b0,zk hB lH b1,zk hB lH b2⟩)) (fun hHeld=>?_);clear hH0 hK K
   try simp only [Act.put,List.setIfInBounds_toArray,List.set_cons_zero,List.set_cons_succ]
   refine HH.take 6 (oi:=_) (v:=?_) rfl (by kernel_rfl) (by kernel_rfl) (by kernel_rfl) (fun _ _ _ h=>h) (Or.inl ⟨by rfl,?_⟩) ‹_› ?_;rotate_left
   . (intro w9 hSw;(try dsimp only at hSw);go_split_ands;go_simp;try with_reducible rfl)
   try simp only [Act.put,List.setIfInBounds_toArray,List.set_cons_zero,List.set_cons_succ]
   refine HH.take 7 (oi:=_) (v:=?_) rfl (by kernel_rfl) (by kernel_rfl) (by kernel_rfl) (fun _ _ _ h=>h) (Or.inl ⟨by rfl,?_⟩) ‹_› ?_;rotate_left
   . (intro w9 hSw;(try dsimp only at hSw);go_split_ands;go_simp;try with_reducible rfl)
   try simp only [Act.put,List.setIfInBounds_toArray,List.set_cons_zero,List.set_cons_succ]
   refine HH.take 8 (oi:=_) (v:=?_) rfl (by kernel_rfl) (by kernel_rfl) (by kernel_rfl) (fun _ _ _ h=>h) (Or.inl ⟨by rfl,?_⟩) ‹_› ?_;rotate_left
   . (intro w9 hSw;(try dsimp only at hSw);go_split_ands;go_simp;try with_reducible rfl)
   try simp only [Act.put,List.setIfInBounds_toArray,List.set_cons_zero,List.set_cons_succ]
   refine HH.take 9 (oi:=_) (v:=?_) rfl (by kernel_rfl) (by kernel_rfl) (by kernel_rfl) (fun _ _ _ h=>h) (Or.inl ⟨by rfl,?_⟩) ‹_› ?_;rotate_left
   . (intro w9 hSw;(try dsimp only at hSw);go_split_ands;go_simp;try with_reducible rfl)
   try simp only [Act.put,List.setIfInBounds_toArray,List.set_cons_zero,List.set_cons_succ]
   refine HH.take 10 (oi:=_) (v:=?_) rfl (by kernel_rfl) (by kernel_rfl) (by kernel_rfl) (fun _ _ _ h=>h) (Or.inl ⟨by rfl,?_⟩) ‹_› ?_;rotate_left
   . (intro w9 hSw;(try dsimp only at hSw);go_split_ands;go_simp;try with_reducible rfl)
   try simp only [Act.put,List.setIfInBounds_toArray,List.set_cons_zero,List.set_cons_succ]
   refine HH.take 11 (oi:=_) (v:=?_) rfl (by kernel_rfl) (by kernel_rfl) (by kernel_rfl) (fun _ _ _ h=>h) (Or.inl ⟨by rfl,?_⟩) ‹_› ?_;rotate_left
   . (intro w9 hSw;(try dsimp only at hSw);go_split_ands;go_simp;try with_reducible rfl)
   try simp only [Act.put,List.setIfInBounds_toArray,List.set_cons_zero,List.set_cons_succ]
   refine HH.ready (rs:=[12]) (by kernel_rfl) (by simp) (by kernel_rfl) ?_;refine zT.cons (o:=_) rfl (fun K hK=>?_) zT.nil;rw [if_pos (by rfl)]
   go_simp
   go_at_call 38;refine (YZ _ _ _ (HRB.out.below hHeld.1.out)).mono ?_;rintro e w8 ⟨rfl,hb8⟩;have hH0:=hHeld;clear hHeld;refine hK.out _ _ (zx (zu hb8 hH0.1) (fun hB=>⟨zk hB rL r0,zk hB lH a0,zk hB lH a1,zk hB lH a2,zk hB lH b0,zk hB lH b1,zk hB lH b2⟩)) (fun hHeld=>?_);clear hH0 hK K
   try simp only [Act.put,List.setIfInBounds_toArray,List.set_cons_zero,List.set_cons_succ]
   refine HH.take 13 (oi:=_) (v:=?_) rfl (by kernel_rfl) (by kernel_rfl) (by kernel_rfl) (fun _ _ _ h=>h) (Or.inl ⟨by rfl,?_⟩) ‹_› ?_;rotate_left
   . (intro w9 hSw;(try dsimp only at hSw);go_split_ands;go_simp;try with_reducible rfl)
   try simp only [Act.put,List.setIfInBounds_toArray,List.set_cons_zero,List.set_cons_succ]
   have HBY:=(hHeld.1).out
   try clear r0 r1 r2 r3 rL
   replace HK:=kb_ HK HBY;replace HV:=ze (xT.below HV.out HBY);replace HW:=eb_ HW HBY;clear HBY hHeld;refine HH.done (by kernel_rfl) ?_;simp only [List.drop_succ_cons,List.drop_zero];obtain ⟨r0,r1,r2,r3,rL⟩:=yG HK.out;clear a0 a1 a2 b0 b1 b2 lH HRA HRB HLA HL1;obtain ⟨S,HT⟩:∃ S,Hid (Sq n.nodes.length n.pipes.length (xt n) (zl gs) S (12735+12735+108)):=zyw (fun i hi=>(Net.bounds HP3.out hi).2.1) HNP.out HCO.out;go_wp2_with fail;refine (zch _).mono ?_;rintro e wb ⟨vb,rfl,hvb,hbb⟩;have HVB:=ze hvb;clear r0 r1 r2 r3 rL hvb;replace HK:=kb_ HK hbb;replace HV:=ze (xT.below HV.out hbb);replace HW:=eb_ HW hbb;obtain ⟨ng,X,n1,c8,Y,n2,c9',rfl,hv0⟩:=HVB.out;clear hv0 hbb;have HFX:Hid (zas (wb.alloc (.cells #[.bool ng,.slice X n1 c8,.slice Y n2 c9'] 63)) wb.heap.size 0):=⟨_,_,_,_,_,_,_,Blk.new _ _ _,HVB.out.below (zg wb _)⟩;have r0:=(HK.out.below (zg wb (.cells #[.bool ng,.slice X n1 c8,.slice Y n2 c9'] 63)) HK.out.lt).cell 1;go_wp2_with fail;clear r0
   go_loopw [15] (zun k1 (fun i=>cross i n.pf n.pt (xt n) (zl gs) (zl gs)) wb.heap.size wb) (fun iv _=>k1 - (intOf iv).toNat)
   case atStart=>exact ⟨0,Nat.zero_le _,rfl,HFX,zg wb _⟩
   case round=>
    clear HFX HVB;obtain ⟨i,hi,rfl,HFB,HB⟩:=hrel;have HWR:=ze (ext HW.out HB.out);have HKR:=ze (HK.out.below HB.out HK.out.lt);obtain ⟨r0,r1,r2,r3,rL⟩:=yG HKR.out;clear HKR
    by_cases hil:i<k1
    . have hin:i<n.pipes.length:=by have:=HK1.out;omega
      have hii:(i:Int)<(k1:Int):=by omega
      obtain ⟨ad,e1,hb,p0,p1,p2,p3,p4⟩:=(HP1.out.below HWR.out).at_ hin;subst e1;obtain ⟨q1,q2,q3,q4⟩:=HEN.out i hin;rw [q1] at p1;rw [q3] at p2;have hh:=Net.bounds HP3.out hin;rw [hh.1] at p4;have hf0:n.pf i<gs.length:=by have:=HLEN.out;omega
      have ht0:n.pt i<gs.length:=by have:=HLEN.out;omega
      have hff:(n.pf i:Int)<(gs.length:Int):=by omega
      have htt:(n.pt i:Int)<(gs.length:Int):=by omega
      obtain ⟨gv,eH,lH,na,Xa,xa,ya,Za,za,ta,a0,a1,a2,hra⟩:=(HV.out.below HB.out).at_ hf0;injection eH with eH
      injection eH with eH
      subst eH;obtain ⟨gv,eH,_,nb,Xb,xb,yb,Zb,zb,tb,b0,b1,b2,hrb⟩:=(HV.out.below HB.out).at_ ht0;injection eH with eH
      injection eH with eH
      subst eH;have sd:Dz (12735+1) (zl gs (n.pf i) - zl gs (n.pt i)):=HCO.out.diff_dz q2 q4;have HD1:=ze (yl (HGS.out _ hf0).2);have HD2:=ze (yl (HGS.out _ ht0).2);have HD3:=ze (yl (HCO.out.diff (by omega) q2 q4));have HD4:=ze (yl (Dz.short (Dz.mul sd sd (Nat.le_refl _)) (by omega)));have HD5:=ze (yl (HT.out.short (by omega) hin q2 q4));have HD6:=ze (yl (Dz.short (HT.out.sum (n:=i) (fun i hi=>(HEN.out i hi).2.1) (fun i hi=>(HEN.out i hi).2.2.2) HNP.out (by omega)) (by omega)));have HD7:=ze (yl (Dz.short hh.2.1 (by omega)));have hst:cross (i+1) n.pf n.pt (xt n) (zl gs) (zl gs)=cross i n.pf n.pt (xt n) (zl gs) (zl gs)+xt n i*((zl gs (n.pf i) - zl gs (n.pt i))*(zl gs (n.pf i) - zl gs (n.pt i))):=by rw [zha,Rat.mul_assoc]
      have hmu:=fun w=>V5 ⟨(zh (xt n i)).toArray⟩ (xt n i) w (yE (yp (Dz.short hh.2.1 (by omega)))) (by rw [yy];exact yv (Dz.short hh.2.1 (by omega:12<50000)))
      have HST:=ze hst;have HMU:=ze hmu;have HRA:=ze hra;have HRB:=ze hrb;clear q1 q2 q3 q4 HWR hh sd hst hmu hra hrb hf0 ht0;have HPB:=ze hb;have hs4:=p4
      go_upto_region 18 with fail
      go_cut [16] from 65 to 83 (fun s wc=>∃ gd,s= .pointer (some ⟨gd,0,none⟩)/\Hid (zas wc gd (zl gs (n.pf i) - zl gs (n.pt i)))/\Hid (zas wc wb.heap.size (cross i n.pf n.pt (xt n) (zl gs) (zl gs)))/\Hid (Below wb.heap.size wb wc)/\Hid (Below wr.heap.size wr wc))
      case first=>
       have HWL:=ze (ze HB.out.size).out;refine yg (S:=fun w' =>Hid (Below wr.heap.size wr w')/\w'.cell? ⟨w.heap.size,1,none⟩=some (.slice (some ad) k1 c1)/\w'.cell? ⟨(ad.add (i*5)).block,(ad.add (i*5)).off+1,none⟩=some (.int .i64 (n.pf i:Int))/\w'.cell? ⟨(ad.add (i*5)).block,(ad.add (i*5)).off+2,none⟩=some (.int .i64 (n.pt i:Int))/\w'.cell? ⟨gh,n.pf i*3,none⟩=some (.bool na)/\w'.cell? ⟨gh,n.pf i*3+1,none⟩=some (.slice Xa xa ya)/\w'.cell? ⟨gh,n.pf i*3+2,none⟩=some (.slice Za za ta)/\w'.cell? ⟨gh,n.pt i*3,none⟩=some (.bool nb)/\w'.cell? ⟨gh,n.pt i*3+1,none⟩=some (.slice Xb xb yb)/\w'.cell? ⟨gh,n.pt i*3+2,none⟩=some (.slice Zb zb tb)) 18 2 20 rfl (by kernel_rfl) (by kernel_rfl) (by kernel_rfl) rfl (zx (z8 wr) (fun hB=>⟨zk hB rL r1,vI hB hb p1,vI hB hb p2,zk hB lH a0,zk hB lH a1,zk hB lH a2,zk hB lH b0,zk hB lH b1,zk hB lH b2⟩)) ?_ (fun hHeld=>?_)
       . intro _ _ _ _ _ h9;exact h9
       simp only [List.take_succ_cons,List.take_zero]
       iterate 18 (refine xz (v:=?_) ?_ ?_;rotate_left;(focus (as_aux_lemma=>(intro w9 hSw;(try dsimp only at hSw);go_split_ands;go_simp;try with_reducible rfl)));try simp only [Act.put,List.setIfInBounds_toArray,List.set_cons_zero,List.set_cons_succ])
       refine vk ?_;refine HH.ready (rs:=[18,19]) (by kernel_rfl) (by simp) (by kernel_rfl) ?_;refine zT.cons (o:=_) rfl (fun K hK=>?_) (zT.cons (o:=_) rfl (fun K hK=>?_) zT.nil)
       . skip
         go_simp
         go_at_call 33;refine (XF _ _ _ _ _ (HRA.out.below (z8 wr).out) (HRB.out.below (z8 wr).out) HD1.out HD2.out).mono ?_;rintro e w2 ⟨v,rfl,hv,hb1⟩;have HV2:=ze hv;have HB12:=zu hb1 (z8 wr);have HFW:=ze (HFB.out.below HB12.out);have HWW:=ze (ext HB.out HB12.out);clear hv HFB HB;have hH0:=hHeld;clear hHeld;refine hK.out _ _ (zx (zu hb1 hH0.1) (fun hB=>⟨zk hB rL r1,vI hB hb p1,vI hB hb p2,zk hB lH a0,zk hB lH a1,zk hB lH a2,zk hB lH b0,zk hB lH b1,zk hB lH b2⟩)) (fun hHeld=>?_);clear hH0 hK K
         try simp only [Act.put,List.setIfInBounds_toArray,List.set_cons_zero,List.set_cons_succ]
         refine HH.ready (rs:=[19]) (by kernel_rfl) (by simp) (by kernel_rfl) ?_;refine zT.cons (o:=_) rfl (fun K hK=>?_) zT.nil
         go_simp
         have hH0:=hHeld;clear hHeld;refine hK.out _ _ (zx (Zj hH0.1) (fun hB=>⟨zk hB rL r1,vI hB hb p1,vI hB hb p2,zk hB lH a0,zk hB lH a1,zk hB lH a2,zk hB lH b0,zk hB lH b1,zk hB lH b2⟩)) (fun hHeld=>?_);clear hH0 hK K
         try simp only [Act.put,List.setIfInBounds_toArray,List.set_cons_zero,List.set_cons_succ]
         refine HH.done (by kernel_rfl) ?_;simp only [List.drop_succ_cons,List.drop_zero];clear HRA HRB a0 a1 a2 b0 b1 b2 lH r0 r1 r2 r3 rL p0 p1 p2 p3 p4 hb hHeld;obtain ⟨ng,X,n2,c8,Y,m2,d2,rfl,hv0⟩:=HV2.out;clear hv0;go_wp2_with fail;go_meet;have hx:=zg w2 (.cells #[.bool ng,.slice X n2 c8,.slice Y m2 d2] 63);exact ⟨w2.heap.size,rfl,⟨ng,X,n2,c8,Y,m2,d2,Blk.new _ _ _,HV2.out.below hx⟩,HFW.out.below hx,ext HWW.out hx,ext HB12.out hx⟩
       . skip
         go_simp
         have HKN:=(Blk.new wr 63 #[.bool false,.slice none 0 0,.slice none 0 0]).drew;have hH0:=hHeld;clear hHeld;refine hK.out _ _ (zx (zL wr _) (fun hB=>⟨zk hB rL r1,vI hB hb p1,vI hB hb p2,zk hB lH a0,zk hB lH a1,zk hB lH a2,zk hB lH b0,zk hB lH b1,zk hB lH b2⟩)) (fun hHeld=>?_);clear hH0 hK K
         try simp only [Act.put,List.setIfInBounds_toArray,List.set_cons_zero,List.set_cons_succ]
         refine HH.ready (rs:=[18]) (by kernel_rfl) (by simp) (by kernel_rfl) ?_;refine zT.cons (o:=_) rfl (fun K hK=>?_) zT.nil
         go_simp
         go_at_call 33;refine (XF _ _ _ _ _ (HRA.out.below (zL wr _).out) (HRB.out.below (zL wr _).out) HD1.out HD2.out).mono ?_;rintro e w2 ⟨v,rfl,hv,hb1⟩;have HV2:=ze hv;have HB12:=zu hb1 (zL wr _);have HFW:=ze (HFB.out.below HB12.out);have HWW:=ze (ext HB.out HB12.out);have HKB:=ze (HKN.below hb1 HKN.lt);have hgw:wb.heap.size<wr.heap.size:=by obtain ⟨_,_,_,_,_,_,_,hk,_⟩:=HFB.out;exact hk.lt
         clear hv HFB HB HKN;have hH0:=hHeld;clear hHeld;refine hK.out _ _ (zx (zu hb1 hH0.1) (fun hB=>⟨zk hB rL r1,vI hB hb p1,vI hB hb p2,zk hB lH a0,zk hB lH a1,zk hB lH a2,zk hB lH b0,zk hB lH b1,zk hB lH b2⟩)) (fun hHeld=>?_);clear hH0 hK K
         try simp only [Act.put,List.setIfInBounds_toArray,List.set_cons_zero,List.set_cons_succ]
         refine HH.done (by kernel_rfl) ?_;simp only [List.drop_succ_cons,List.drop_zero];clear HRA HRB a0 a1 a2 b0 b1 b2 lH r0 r1 r2 r3 rL p0 p1 p2 p3 p4 hb hHeld hb1;obtain ⟨ng,X,n2,c8,Y,m2,d2,rfl,hv0⟩:=HV2.out;clear hv0;have r0:=HKB.out.cell 0;have r1:=HKB.out.cell 1;have r2:=HKB.out.cell 2;have f0:=HKB.out.frozen 0;have f1:=HKB.out.frozen 1;have f2:=HKB.out.frozen 2;simp at r0 r1 r2;go_wp2_with fail;go_meet
         have hc:Chg (fun b=>b=wr.heap.size) w2 (World.ref w2 wr.heap.size ng X n2 c8 Y m2 d2):=
          Chg.setCell (S:=fun b=>b=wr.heap.size) (Chg.setCell (S:=fun b=>b=wr.heap.size) (Chg.setCell (S:=fun b=>b=wr.heap.size) (Chg.refl w2) (p:=⟨wr.heap.size,0,none⟩) rfl _) (p:=⟨wr.heap.size,1,none⟩) rfl _) (p:=⟨wr.heap.size,2,none⟩) rfl _
         have hS:∀ b,b=wr.heap.size->YO w2 b:=fun b e=>by subst e;exact HKB.out.noI64 (zgo _ _ _ _ _ _ _)
         have hne:wb.heap.size≠wr.heap.size:=by omega
         exact ⟨wr.heap.size,rfl,⟨ng,X,n2,c8,Y,m2,d2,yL HKB.out,hc.ref HV2.out hS⟩,HFW.out.chg hc hne hS,zZ HWW.out HWL.out,zZ HB12.out (Nat.le_refl _)⟩
      case rest=>
       clear HFB HB HRA HRB a0 a1 a2 b0 b1 b2 lH p0 p1 p2 p3 p4 hb r0 r1 r2 r3 rL;obtain ⟨gd,rfl,HFD,HFB,HB,HRC⟩:=hcut;have HWR:=ze (ext HW.out HB.out);have HKR:=ze (HK.out.below HB.out HK.out.lt);have r1:=HKR.out.cell 1;have rL:=HKR.out.lt;simp at r1;have hb:=HPB.out;have p4:=vI HRC.out hb hs4;have hb:=Nat.lt_of_lt_of_le hb HRC.out.size;obtain ⟨nf,Xf,xf,yf,Zf,zf,tf,hkf,hrf⟩:=HFB.out;have e0:=hkf.cell 0;have e1:=hkf.cell 1;have e2:=hkf.cell 2;obtain ⟨nd,Xd,xd,yd,Zd,zd,td,hkd,hrd⟩:=HFD.out;have d0:=hkd.cell 0;have d1:=hkd.cell 1;have d2:=hkd.cell 2;simp at e0 e1 e2 d0 d1 d2;have eL:=hkf.lt;have dL:=hkd.lt;have HRF:=ze hrf;have HRD:=ze hrd;clear hrf hrd hkf hkd HKR HWR HRC hs4 HPB
       go_upto_region 19 with fail
       refine yh (S:=fun w' =>Hid (Below wc.heap.size wc w')/\w'.cell? ⟨w.heap.size,1,none⟩=some (.slice (some ad) k1 c1)/\w'.cell? ⟨(ad.add (i*5)).block,(ad.add (i*5)).off+4,none⟩=some (str (zh (xt n i)))/\w'.cell? ⟨wb.heap.size,0,none⟩=some (.bool nf)/\w'.cell? ⟨wb.heap.size,1,none⟩=some (.slice Xf xf yf)/\w'.cell? ⟨wb.heap.size,2,none⟩=some (.slice Zf zf tf)/\w'.cell? ⟨gd,0,none⟩=some (.bool nd)/\w'.cell? ⟨gd,1,none⟩=some (.slice Xd xd yd)/\w'.cell? ⟨gd,2,none⟩=some (.slice Zd zd td)) 13 (by kernel_rfl) (by kernel_rfl) (zx (z8 wc) (fun hB=>⟨zk hB rL r1,vI hB hb p4,zk hB eL e0,zk hB eL e1,zk hB eL e2,zk hB dL d0,zk hB dL d1,zk hB dL d2⟩)) (fun hHeld=>?_);refine HH.take 0 (oi:=_) (v:=?_) rfl (by kernel_rfl) (by kernel_rfl) (by kernel_rfl) (fun _ _ _ h=>h) (Or.inl ⟨by rfl,?_⟩) ‹_› ?_;rotate_left
       . (intro w9 hSw;(try dsimp only at hSw);go_split_ands;go_simp;try with_reducible rfl)
       try simp only [Act.put,List.setIfInBounds_toArray,List.set_cons_zero,List.set_cons_succ]
       refine HH.take 1 (oi:=_) (v:=?_) rfl (by kernel_rfl) (by kernel_rfl) (by kernel_rfl) (fun _ _ _ h=>h) (Or.inl ⟨by rfl,?_⟩) ‹_› ?_;rotate_left
       . (intro w9 hSw;(try dsimp only at hSw);go_split_ands;go_simp;try with_reducible rfl)
       try simp only [Act.put,List.setIfInBounds_toArray,List.set_cons_zero,List.set_cons_succ]
       refine HH.take 2 (oi:=_) (v:=?_) rfl (by kernel_rfl) (by kernel_rfl) (by kernel_rfl) (fun _ _ _ h=>h) (Or.inl ⟨by rfl,?_⟩) ‹_› ?_;rotate_left
       . (intro w9 hSw;(try dsimp only at hSw);go_split_ands;go_simp;try with_reducible rfl)
       try simp only [Act.put,List.setIfInBounds_toArray,List.set_cons_zero,List.set_cons_succ]
       refine HH.take 3 (oi:=_) (v:=?_) rfl (by kernel_rfl) (by kernel_rfl) (by kernel_rfl) (fun _ _ _ h=>h) (Or.inl ⟨by rfl,?_⟩) ‹_› ?_;rotate_left
       . (intro w9 hSw;(try dsimp only at hSw);go_split_ands;go_simp;try with_reducible rfl)
       try simp only [Act.put,List.setIfInBounds_toArray,List.set_cons_zero,List.set_cons_succ]
       refine HH.take 4 (oi:=_) (v:=?_) rfl (by kernel_rfl) (by kernel_rfl) (by kernel_rfl) (fun _ _ _ h=>h) (Or.inl ⟨by rfl,?_⟩) ‹_› ?_;rotate_left
       . (intro w9 hSw;(try dsimp only at hSw);go_split_ands;go_simp;try with_reducible rfl)
       try simp only [Act.put,List.setIfInBounds_toArray,List.set_cons_zero,List.set_cons_succ]
       refine HH.take 5 (oi:=_) (v:=?_) rfl (by kernel_rfl) (by kernel_rfl) (by kernel_rfl) (fun _ _ _ h=>h) (Or.inl ⟨by rfl,?_⟩) ‹_› ?_;rotate_left
       . (intro w9 hSw;(try dsimp only at hSw);go_split_ands;go_simp;try with_reducible rfl)
       try simp only [Act.put,List.setIfInBounds_toArray,List.set_cons_zero,List.set_cons_succ]
       refine HH.take 6 (oi:=_) (v:=?_) rfl (by kernel_rfl) (by kernel_rfl) (by kernel_rfl) (fun _ _ _ h=>h) (Or.inl ⟨by rfl,?_⟩) ‹_› ?_;rotate_left
       . (intro w9 hSw;(try dsimp only at hSw);go_split_ands;go_simp;try with_reducible rfl)
       try simp only [Act.put,List.setIfInBounds_toArray,List.set_cons_zero,List.set_cons_succ]
       refine HH.take 8 (oi:=_) (v:=?_) rfl (by kernel_rfl) (by kernel_rfl) (by kernel_rfl) (fun _ _ _ h=>h) (Or.inl ⟨by rfl,?_⟩) ‹_› ?_;rotate_left
       . (intro w9 hSw;(try dsimp only at hSw);go_split_ands;go_simp;try with_reducible rfl)
       try simp only [Act.put,List.setIfInBounds_toArray,List.set_cons_zero,List.set_cons_succ]
       refine HH.take 9 (oi:=_) (v:=?_) rfl (by kernel_rfl) (by kernel_rfl) (by kernel_rfl) (fun _ _ _ h=>h) (Or.inl ⟨by rfl,?_⟩) ‹_› ?_;rotate_left
       . (intro w9 hSw;(try dsimp only at hSw);go_split_ands;go_simp;try with_reducible rfl)
       try simp only [Act.put,List.setIfInBounds_toArray,List.set_cons_zero,List.set_cons_succ]
       refine HH.ready (rs:=[7]) (by kernel_rfl) (by simp) (by kernel_rfl) ?_;refine zT.cons (o:=_) rfl (fun K hK=>?_) zT.nil
       go_simp
       go_at_call 39;refine (HMU.out _).mono ?_;rintro e wm ⟨vm,rfl,hvm,hbm⟩;have HVM:=ze hvm;clear hvm;have hH0:=hHeld;clear hHeld;refine hK.out _ _ (zx (zu hbm (z8 wc)) (fun hB=>⟨zk hB rL r1,vI hB hb p4,zk hB eL e0,zk hB eL e1,zk hB eL e2,zk hB dL d0,zk hB dL d1,zk hB dL d2⟩)) (fun hHeld=>?_);clear hH0 hK K
       try simp only [Act.put,List.setIfInBounds_toArray,List.set_cons_zero,List.set_cons_succ]
       refine HH.ready (rs:=[10]) (by kernel_rfl) (by simp) (by kernel_rfl) ?_;refine zT.cons (o:=_) rfl (fun K hK=>?_) zT.nil
       go_simp
       go_at_call 32;refine (Zp _ _ _ _ _ (HRD.out.below hHeld.1.out) (HRD.out.below hHeld.1.out) HD3.out HD3.out).mono ?_;rintro e wt ⟨vt,rfl,hvt,hbt⟩;have HVT:=ze hvt;have HVM:=ze (HVM.out.below hbt);clear hvt;have hH0:=hHeld;clear hHeld;refine hK.out _ _ (zx (zu hbt hH0.1) (fun hB=>⟨zk hB rL r1,vI hB hb p4,zk hB eL e0,zk hB eL e1,zk hB eL e2,zk hB dL d0,zk hB dL d1,zk hB dL d2⟩)) (fun hHeld=>?_);clear hH0 hK K
       try simp only [Act.put,List.setIfInBounds_toArray,List.set_cons_zero,List.set_cons_succ]
       refine HH.ready (rs:=[11]) (by kernel_rfl) (by simp) (by kernel_rfl) ?_;refine zT.cons (o:=_) rfl (fun K hK=>?_) zT.nil
       go_simp
       go_at_call 32;refine (Zp _ _ _ _ _ HVM.out HVT.out HD7.out HD4.out).mono ?_;rintro e wu ⟨vu,rfl,hvu,hbu⟩;have HVU:=ze hvu;clear hvu;have hH0:=hHeld;clear hHeld;refine hK.out _ _ (zx (zu hbu hH0.1) (fun hB=>⟨zk hB rL r1,vI hB hb p4,zk hB eL e0,zk hB eL e1,zk hB eL e2,zk hB dL d0,zk hB dL d1,zk hB dL d2⟩)) (fun hHeld=>?_);clear hH0 hK K
       try simp only [Act.put,List.setIfInBounds_toArray,List.set_cons_zero,List.set_cons_succ]
       refine HH.ready (rs:=[12]) (by kernel_rfl) (by simp) (by kernel_rfl) ?_;refine zT.cons (o:=_) rfl (fun K hK=>?_) zT.nil
       go_simp
       go_at_call 31;refine (vz _ _ _ _ _ (HRF.out.below hHeld.1.out) HVU.out HD6.out HD5.out).mono ?_;rintro e w8 ⟨v8,rfl,hv8,hb8⟩;have HV8:=ze hv8;clear hv8;have hH0:=hHeld;clear hHeld;refine hK.out _ _ (zx (zu hb8 hH0.1) (fun hB=>⟨zk hB rL r1,vI hB hb p4,zk hB eL e0,zk hB eL e1,zk hB eL e2,zk hB dL d0,zk hB dL d1,zk hB dL d2⟩)) (fun hHeld=>?_);clear hH0 hK K
       try simp only [Act.put,List.setIfInBounds_toArray,List.set_cons_zero,List.set_cons_succ]
       have HBY:=(hHeld.1).out;replace HFB:=ze (zas.below HFB.out HBY);replace HB:=eb_ HB HBY;clear HBY hHeld;refine HH.done (by kernel_rfl) ?_;simp only [List.drop_succ_cons,List.drop_zero];clear HRF HRD HVM HVT HVU e0 e1 e2 d0 d1 d2 eL dL hb p4 r1 rL;obtain ⟨ng,X,n3,c8,Y,m2,d2,rfl,hv0⟩:=HV8.out;obtain ⟨_,_,_,_,_,_,_,hkg,_⟩:=HFB.out;have HFS:=ze (VB HFB.out HV8.out);rw [<- HST.out] at HFS;have HBS:=ze (zZ (ng:=ng) (A:=X) (n:=n3) (c:=c8) (B:=Y) (m:=m2) (d:=d2) HB.out (Nat.le_refl _));have f0:=hkg.frozen 0;have f1:=hkg.frozen 1;have f2:=hkg.frozen 2;have u0:=hkg.cell 0;have u1:=hkg.cell 1;have u2:=hkg.cell 2;simp at u0 u1 u2;clear hv0 hkg HFB HB HV8;go_wp2_with fail;go_roundw
       case rel=>exact ⟨i+1,by omega,by go_num,HFS,HBS⟩
       case measure=>simp [intOf];omega
    . obtain rfl:k1=i:=by omega
      obtain ⟨nf,Xf,xf,yf,Zf,zf,tf,hkf,hrf⟩:=HFB.out;have e0:=hkf.cell 0;have e1:=hkf.cell 1;have e2:=hkf.cell 2;simp at e0 e1 e2;have ht:=zng _ _ wr hrf (Dz.short (HT.out.sum (n:=k1) (fun i hi=>(HEN.out i hi).2.1) (fun i hi=>(HEN.out i hi).2.2.2) HNP.out (by have:=HK1.out;omega)) (by omega));clear hkf hrf;go_wp2_with fail;refine ht.mono ?_;rintro e w8 ⟨rfl,hb8⟩;have HW8:=ze (ext HWR.out hb8);clear hb8 ht;go_wp2_with fail;go_ret2;refine ⟨HW8.out,.inr ⟨HF.out,?_⟩⟩;rw [<- HK1.out]
      rfl
theorem zrl (w:World):Calls Tryz.prog 30 #[.int .i64 (-1)] w (Yg w (-1:Rat)):=by
 have hs:=fun w=>zkl 1 w (by omega)
 have hX:=zg w (.cells #[.bool false,.slice none 0 0,.slice none 0 0] 63)
 have HKR:=ze (Blk.new w 63 #[.bool false,.slice none 0 0,.slice none 0 0])
 have HW:=ze hX
 clear hX
 go_enter Tryz.func30,Tryz.ntmps30
 go_wp2_with fail
 refine (hs _).mono ?_
 rintro e w1 ⟨v,rfl,hv,hb1⟩
 have hx:=zg w1 (.cells #[.int .i64 1] 3)
 have h1:=zaa w1 (d:=1) (by omega) (by omega)
 have H0:=ze (z9.below hv hx)
 have H1:=ze h1
 have HK:=ze (HKR.out.below (ext hb1 hx) HKR.out.lt)
 have HWW:=ze (ext HW.out (ext hb1 hx))
 obtain ⟨A,n,c,rfl⟩:∃ A n c,v= .slice A n c:=by obtain ⟨A,c,ds,rfl,_⟩:=hv;exact ⟨_,_,_,rfl⟩
 have r0:=HK.out.cell 0
 have r1:=HK.out.cell 1
 have r2:=HK.out.cell 2
 have f0:=HK.out.frozen 0
 have f1:=HK.out.frozen 1
 have f2:=HK.out.frozen 2
 have lR:=HK.out.lt
 simp at r0 r1 r2
 clear hb1 h1 hv hx hs
 go_wp2_with fail
 have kR2:=yL (ng:=true) (A:=A) (n:=n) (c:=c) (B:=some ⟨w1.heap.size,0,none⟩) (m:=1) (d:=1) HK.out
 have hR0:=zU (ng:=true) (A:=A) (n:=n) (c:=c) (B:=some ⟨w1.heap.size,0,none⟩) (m:=1) (d:=1) H0.out HK.out
 have hR1:=zU (ng:=true) (A:=A) (n:=n) (c:=c) (B:=some ⟨w1.heap.size,0,none⟩) (m:=1) (d:=1) H1.out HK.out
 have e0:=kR2.cell 0
 have e1:=kR2.cell 1
 have e2:=kR2.cell 2
 simp only [World.ref] at e0 e1 e2
 simp at e0 e1 e2
 refine bodyPost_ret (v:=.agg #[.bool true,.slice A n c,.slice (some ⟨w1.heap.size,0,none⟩) 1 1]) (by simp [results,Tryz.results30,go_sem,e0,e1,e2]) rfl ?_
 have hn:((-1:Rat)).num= -1:=rfl
 exact ⟨_,rfl,⟨_,_,_,_,_,_,_,rfl,(decide_eq_true (by rw [hn];omega)).symm,by rw [hn];exact hR0,hR1⟩,zZ (w:=w) (g:=w.heap.size) HWW.out (Nat.le_refl _)⟩
def zwj (a b k:Nat):Int:=if k=a then (if k=b then -1 else 1) else if k=b then -1 else 0
theorem zly {a b:Nat} (hab:a≠b) (k:Nat) (w:World):Calls Tryz.prog 30 #[.int .i64 (zwj a b k)] w (Yg w (Xl a b k)):=by
 unfold zwj Xl
 by_cases h1:k=a
 . rw [if_pos h1,if_neg (fun h=>hab (h1.symm.trans h)),if_pos h1];exact zb0 w
 rw [if_neg h1,if_neg h1]
 by_cases h2:k=b
 . rw [if_pos h2,if_pos h2];exact zrl w
 rw [if_neg h2,if_neg h2];exact zch w
theorem zws (a b k:Nat):Dz 12 (Xl a b k):=by
 unfold Xl
 split
 . exact zcy
 split
 . exact zcy.neg
 exact (Dz.zero 1).more (by omega)
theorem zvf {m k:Nat} {pf pt:Nat->Nat} {f:Nat->Rat} (h:pf m≠pt m):yN (m+1) pf pt f k=if pf m=k then yN m pf pt f k+f m else if pt m=k then yN m pf pt f k - f m else yN m pf pt f k:=by
 by_cases h1:pf m=k
 . subst h1;rw [if_pos rfl,zhz h]
 rw [if_neg h1]
 by_cases h2:pt m=k
 . subst h2;rw [if_pos rfl,ztb h]
 rw [if_neg h2,zr0 (fun e=>h1 e.symm) (fun e=>h2 e.symm)]
def UniR (N np:Nat) (pf pt:Nat->Nat) (a b:Nat) (f:Nat->Rat) (w:World) (iv:Value) (wr:World):Prop:=
 ∃ i:Nat,i<=N/\iv= .int .i64 i/\Hid (∀ j,j<i->yN np pf pt f j=Xl a b j)/\Hid (Below w.heap.size w wr)
theorem zu5 (vn vf:Value) (n:Net) (a b:Nat) (f:Nat->Rat) (w:World) (u:Bool) (hn:Zw w vn n) (hf:xT w vf n.pipes.length f) (he:n.Ends) (hne:∀ i,i<n.pipes.length->n.pf i≠n.pt i) (hab:a≠b) (hcom:xB n.pipes.length f 13000) (hnp:n.pipes.length<=9) (hN:n.nodes.length<=24)
 (hu:u=true↔Yb n.nodes.length n.pipes.length n.pf n.pt a b f):
 Calls Tryz.prog 42 #[vn,.int .i64 (a:Int),.int .i64 (b:Int),vf] w (vO w (.bool u)):=by
 have HU:=ze hu
 have HV:=ze hf
 have HEN:=ze he
 have HPN:=ze hne
 have HCO:=ze hcom
 have HNP:=ze hnp
 have HAB:=ze hab
 obtain ⟨A0,k0,c0,A1,k1,c1,A2,k2,c2,A3,k3,c3,rfl,hn0,hn1,hn2,hn3⟩:=hn
 have hk0:k0=n.nodes.length:=by obtain ⟨A',c',e,_⟩:=hn0;injection e
 have hk1:k1=n.pipes.length:=by obtain ⟨A',c',e,_⟩:=hn1;injection e
 have HK0:=ze hk0
 have HK1:=ze hk1
 have HP1:=ze hn1
 have hk9:k1<=9:=by omega
 have hk24:k0<=24:=by omega
 have HW:=ze (zg w (.cells #[.slice A0 k0 c0,.slice A1 k1 c1,.slice A2 k2 c2,.slice A3 k3 c3] 26))
 have HK:=ze (Blk.new w 26 #[.slice A0 k0 c0,.slice A1 k1 c1,.slice A2 k2 c2,.slice A3 k3 c3])
 obtain ⟨AV,capV,hve,_⟩:=HV.out
 subst hve
 clear hn0 hn1 hn2 hn3 hk0 hk1 hu hf he hne hcom hnp hN hab
 go_enter Tryz.func42,Tryz.ntmps42
 go_wp2_with fail
 go_loopw [9] (UniR k0 n.pipes.length n.pf n.pt a b f (w.alloc (.cells #[.slice A0 k0 c0,.slice A1 k1 c1,.slice A2 k2 c2,.slice A3 k3 c3] 26))) (fun iv _=>k0 - (intOf iv).toNat)
 case atStart=>exact ⟨0,Nat.zero_le _,rfl,fun j h=>by omega,zP _⟩
 case round=>
  generalize w.alloc (.cells #[.slice A0 k0 c0,.slice A1 k1 c1,.slice A2 k2 c2,.slice A3 k3 c3] 26)=WN at HW HK hrel
  obtain ⟨i,hi,rfl,HD,HB⟩:=hrel
  have HWR:=ze (ext HW.out HB.out)
  have HKR:=ze (HK.out.below HB.out HK.out.lt)
  obtain ⟨r0,r1,r2,r3,rL⟩:=yG HKR.out
  clear HKR
  by_cases hil:i<k0
  rotate_left
  . obtain rfl:k0=i:=by omega
    have HUT:Hid (u=true):=ze (HU.out.2 (fun j hj=>by have:=HD.out j (by have:=HK0.out;omega);exact this));have h9:=HUT.out;subst h9;go_wp2_with fail;go_ret;exact ⟨rfl,HWR.out⟩
  have hii:(i:Int)<(k0:Int):=by omega
  go_wp2_with fail;refine (zch _).mono ?_;rintro e wb ⟨vb,rfl,hvb,hbb⟩;have HVB:=ze hvb;have HBB:=ze (ext HB.out hbb);clear r0 r1 r2 r3 rL hvb hbb HB HWR;obtain ⟨ng,X,n1,c8,Y,n2,c9',rfl,hv0⟩:=HVB.out;clear hv0;have HFX:Hid (zas (wb.alloc (.cells #[.bool ng,.slice X n1 c8,.slice Y n2 c9'] 63)) wb.heap.size 0):=⟨_,_,_,_,_,_,_,Blk.new _ _ _,HVB.out.below (zg wb _)⟩;go_wp2_with fail
  go_loopw [11] (zun k1 (fun m=>yN m n.pf n.pt f i) wb.heap.size wb) (fun iv _=>k1 - (intOf iv).toNat)
  case atStart=>exact ⟨0,Nat.zero_le _,rfl,HFX,zg wb _⟩
  case round=>
   clear HFX HVB;obtain ⟨m,hm,rfl,HFB,HB⟩:=hrel;have HWR:=ze (ext HW.out (ext HBB.out HB.out));have HKR:=ze (HK.out.below (ext HBB.out HB.out) HK.out.lt);obtain ⟨r0,r1,r2,r3,rL⟩:=yG HKR.out;clear HKR
   by_cases hml:m<k1
   rotate_left
   . obtain rfl:k1=m:=by omega
     have HBW:=ze (ext HBB.out HB.out);have HFE:Hid (zas wr wb.heap.size (yN n.pipes.length n.pf n.pt f i)):=by rw [<- HK1.out];exact HFB
     clear HFB HB HBB
     have hcas:∃ (zi:Int) (j1 j2:Bool),((i:Int) == (a:Int))=j1/\((i:Int) == (b:Int))=j2/\((j1=true/\j2=false/\zi=1)\/(j1=false/\j2=true/\zi= -1)\/(j1=false/\j2=false/\zi=0))/\Hid (∀ w,Calls Tryz.prog 30 #[.int .i64 zi] w (Yg w (Xl a b i))):=by
      have h:=zly HAB.out i;unfold zwj at h
      by_cases g1:i=a
      . have g2:i≠b:=fun h=>HAB.out (g1.symm.trans h)
        rw [if_pos g1,if_neg g2] at h;exact ⟨1,true,false,by rw [beq_iff_eq,g1],by rw [beq_eq_false_iff_ne];omega,.inl ⟨rfl,rfl,rfl⟩,h⟩
      rw [if_neg g1] at h
      by_cases g2:i=b
      . rw [if_pos g2] at h
        exact ⟨-1,false,true,by rw [beq_eq_false_iff_ne];omega,by rw [beq_iff_eq,g2],.inr (.inl ⟨rfl,rfl,rfl⟩),h⟩
      rw [if_neg g2] at h
      exact ⟨0,false,false,by rw [beq_eq_false_iff_ne];omega,by rw [beq_eq_false_iff_ne];omega,.inr (.inr ⟨rfl,rfl,rfl⟩),h⟩
     obtain ⟨zi,j1,j2,hJ1,hJ2,hcas,HOW⟩:=hcas
     rcases hcas with ⟨rfl,rfl,rfl⟩ | ⟨rfl,rfl,rfl⟩ | ⟨rfl,rfl,rfl⟩
     all_goals
      obtain ⟨nf,Xf,xf,yf,Zf,zf,tf,hkf,hrf⟩:=HFE.out;have e0:=hkf.cell 0;have e1:=hkf.cell 1;have e2:=hkf.cell 2;simp at e0 e1 e2;have eL:=hkf.lt;have HRF:=ze hrf;have HD1:=ze (yl ((zg6 HCO.out HNP.out n.pf n.pt i (n:=n.pipes.length) (by omega)).short (by omega)));have HD2:=ze (yl ((zws a b i).short (by omega)));clear hkf hrf HFE HWR
      go_upto_region 17 with fail
      clear r0 r1 r2 r3 rL
      by_cases g:yN n.pipes.length n.pf n.pt f i=Xl a b i
      rotate_left
      . have hI:((yN n.pipes.length n.pf n.pt f i - Xl a b i).num.sign != 0)=true:=zlq (fun h=>g (by grind))
        have HUF:Hid (u=false):=ze (by
         cases hu:u with
         | false=>rfl
         | true=>exact absurd (HU.out.1 hu i (by have:=HK0.out;omega)) g)
        clear g HD;refine yh (S:=fun w' =>Hid (Below wr.heap.size wr w')/\w'.cell? ⟨wb.heap.size,0,none⟩=some (.bool nf)/\w'.cell? ⟨wb.heap.size,1,none⟩=some (.slice Xf xf yf)/\w'.cell? ⟨wb.heap.size,2,none⟩=some (.slice Zf zf tf)) 4 (by kernel_rfl) (by kernel_rfl) (zx (z8 wr) (fun hB=>⟨zk hB eL e0,zk hB eL e1,zk hB eL e2⟩)) (fun hHeld=>?_);refine HH.take 0 (oi:=_) (v:=?_) rfl (by kernel_rfl) (by kernel_rfl) (by kernel_rfl) (fun _ _ _ h=>h) (Or.inl ⟨by rfl,?_⟩) ‹_› ?_;rotate_left
        . (intro w9 hSw;(try dsimp only at hSw);go_split_ands;go_simp;try with_reducible rfl)
        try simp only [Act.put,List.setIfInBounds_toArray,List.set_cons_zero,List.set_cons_succ]
        refine HH.take 1 (oi:=_) (v:=?_) rfl (by kernel_rfl) (by kernel_rfl) (by kernel_rfl) (fun _ _ _ h=>h) (Or.inl ⟨by rfl,?_⟩) ‹_› ?_;rotate_left
        . (intro w9 hSw;(try dsimp only at hSw);go_split_ands;go_simp;try with_reducible rfl)
        try simp only [Act.put,List.setIfInBounds_toArray,List.set_cons_zero,List.set_cons_succ]
        refine HH.ready (rs:=[2]) (by kernel_rfl) (by simp) (by kernel_rfl) ?_;refine zT.cons (o:=_) rfl (fun K hK=>?_) zT.nil
        go_simp
        go_at_call 30;refine (HOW.out _).mono ?_;rintro e w6 ⟨v6,rfl,hv6,hb6⟩;have HV6:=ze hv6;clear hv6;have hH0:=hHeld;clear hHeld;refine hK.out _ _ (zx (zu hb6 hH0.1) (fun hB=>⟨zk hB eL e0,zk hB eL e1,zk hB eL e2⟩)) (fun hHeld=>?_);clear hH0 hK K
        try simp only [Act.put,List.setIfInBounds_toArray,List.set_cons_zero,List.set_cons_succ]
        refine HH.ready (rs:=[3]) (by kernel_rfl) (by simp) (by kernel_rfl) ?_;refine zT.cons (o:=_) rfl (fun K hK=>?_) zT.nil
        go_simp
        go_at_call 37;refine (Zo _ _ _ _ _ (HRF.out.below hHeld.1.out) HV6.out HD1.out HD2.out).mono ?_;rintro e w7 ⟨rfl,hb7⟩;have hH0:=hHeld;clear hHeld;refine hK.out _ _ (zx (zu hb7 hH0.1) (fun hB=>⟨zk hB eL e0,zk hB eL e1,zk hB eL e2⟩)) (fun hHeld=>?_);clear hH0 hK K
        try simp only [Act.put,List.setIfInBounds_toArray,List.set_cons_zero,List.set_cons_succ]
        have HBY:=(hHeld.1).out;replace HBW:=eb_ HBW HBY;clear HBY hHeld;refine HH.done (by kernel_rfl) ?_;simp only [List.drop_succ_cons,List.drop_zero];clear HRF HOW HD1 HD2 e0 e1 e2 eL HV6;have h9:=HUF.out;subst h9;have HWZ:=ze (ext HW.out HBW.out);go_wp2_with fail;go_ret;exact ⟨rfl,HWZ.out⟩
      have hI:((yN n.pipes.length n.pf n.pt f i - Xl a b i).num.sign != 0)=false:=by rw [show yN n.pipes.length n.pf n.pt f i - Xl a b i=0 by rw [g];grind];rfl
      have HDN:Hid (∀ j,j<i+1->yN n.pipes.length n.pf n.pt f j=Xl a b j):=fun j hj=>by
       rcases Nat.lt_or_eq_of_le (Nat.le_of_lt_succ hj) with h | h
       . exact HD.out j h
       . rw [h];exact g
      clear g HD;refine yh (S:=fun w' =>Hid (Below wr.heap.size wr w')/\w'.cell? ⟨wb.heap.size,0,none⟩=some (.bool nf)/\w'.cell? ⟨wb.heap.size,1,none⟩=some (.slice Xf xf yf)/\w'.cell? ⟨wb.heap.size,2,none⟩=some (.slice Zf zf tf)) 4 (by kernel_rfl) (by kernel_rfl) (zx (z8 wr) (fun hB=>⟨zk hB eL e0,zk hB eL e1,zk hB eL e2⟩)) (fun hHeld=>?_);refine HH.take 0 (oi:=_) (v:=?_) rfl (by kernel_rfl) (by kernel_rfl) (by kernel_rfl) (fun _ _ _ h=>h) (Or.inl ⟨by rfl,?_⟩) ‹_› ?_;rotate_left
      . (intro w9 hSw;(try dsimp only at hSw);go_split_ands;go_simp;try with_reducible rfl)
      try simp only [Act.put,List.setIfInBounds_toArray,List.set_cons_zero,List.set_cons_succ]
      refine HH.take 1 (oi:=_) (v:=?_) rfl (by kernel_rfl) (by kernel_rfl) (by kernel_rfl) (fun _ _ _ h=>h) (Or.inl ⟨by rfl,?_⟩) ‹_› ?_;rotate_left
      . (intro w9 hSw;(try dsimp only at hSw);go_split_ands;go_simp;try with_reducible rfl)
      try simp only [Act.put,List.setIfInBounds_toArray,List.set_cons_zero,List.set_cons_succ]
      refine HH.ready (rs:=[2]) (by kernel_rfl) (by simp) (by kernel_rfl) ?_;refine zT.cons (o:=_) rfl (fun K hK=>?_) zT.nil
      go_simp
      go_at_call 30;refine (HOW.out _).mono ?_;rintro e w6 ⟨v6,rfl,hv6,hb6⟩;have HV6:=ze hv6;clear hv6;have hH0:=hHeld;clear hHeld;refine hK.out _ _ (zx (zu hb6 hH0.1) (fun hB=>⟨zk hB eL e0,zk hB eL e1,zk hB eL e2⟩)) (fun hHeld=>?_);clear hH0 hK K
      try simp only [Act.put,List.setIfInBounds_toArray,List.set_cons_zero,List.set_cons_succ]
      refine HH.ready (rs:=[3]) (by kernel_rfl) (by simp) (by kernel_rfl) ?_;refine zT.cons (o:=_) rfl (fun K hK=>?_) zT.nil
      go_simp
      go_at_call 37;refine (Zo _ _ _ _ _ (HRF.out.below hHeld.1.out) HV6.out HD1.out HD2.out).mono ?_;rintro e w7 ⟨rfl,hb7⟩;have hH0:=hHeld;clear hHeld;refine hK.out _ _ (zx (zu hb7 hH0.1) (fun hB=>⟨zk hB eL e0,zk hB eL e1,zk hB eL e2⟩)) (fun hHeld=>?_);clear hH0 hK K
      try simp only [Act.put,List.setIfInBounds_toArray,List.set_cons_zero,List.set_cons_succ]
      have HBY:=(hHeld.1).out;replace HBW:=eb_ HBW HBY;clear HBY hHeld;refine HH.done (by kernel_rfl) ?_;simp only [List.drop_succ_cons,List.drop_zero];clear HRF HOW HD1 HD2 e0 e1 e2 eL HV6;go_wp2_with fail;go_roundw
      case rel=>exact ⟨i+1,by omega,by go_num,HDN,HBW⟩
      case measure=>simp [intOf];omega
   have hin:m<n.pipes.length:=by have:=HK1.out;omega
   have hmm:(m:Int)<(k1:Int):=by omega
   have hmp:(m:Int)<(n.pipes.length:Int):=by omega
   obtain ⟨ad,e1,hb,p0,p1,p2,p3,p4⟩:=(HP1.out.below HWR.out).at_ hin;subst e1;obtain ⟨q1,q2,q3,q4⟩:=HEN.out m hin;rw [q1] at p1;rw [q3] at p2;have hst:=zvf (k:=i) (f:=f) (HPN.out m hin);have HD1:=ze (yl ((zg6 HCO.out HNP.out n.pf n.pt i (n:=m) (by omega)).short (by omega)));have HD2:=ze (yl ((zrt HCO.out hin).short (by omega)));clear q1 q2 q3 q4 HWR
   by_cases hp1:n.pf m=i
   rotate_left
   . rw [if_neg hp1] at hst
     have hI1:((n.pf m:Int) == (i:Int))=false:=by rw [beq_eq_false_iff_ne];omega
     clear hp1
     by_cases hp2:n.pt m=i
     rotate_left
     . rw [if_neg hp2] at hst
       have hI2:((n.pt m:Int) == (i:Int))=false:=by rw [beq_eq_false_iff_ne];omega
       have HFN:Hid (zas wr wb.heap.size (yN (m+1) n.pf n.pt f i)):=by rw [hst];exact HFB
       clear hst hp2 HFB HD1 HD2;go_wp2_with fail;go_roundw
       case rel=>exact ⟨m+1,by omega,by go_num,HFN,HB⟩
       case measure=>simp [intOf];omega
     rw [if_pos hp2] at hst
     have hI2:((n.pt m:Int) == (i:Int))=true:=by rw [beq_iff_eq,hp2]
     have HST:=ze hst;clear hp2 hst;obtain ⟨gc,eC,lC,nc,Xc,xc,yc,Zc,zc,tc,a0,a1,a2,hrc⟩:=(HV.out.below (ext HW.out (ext HBB.out HB.out))).at_ hin;subst eC;obtain ⟨nf,Xf,xf,yf,Zf,zf,tf,hkf,hrf⟩:=HFB.out;have e0:=hkf.cell 0;have e1:=hkf.cell 1;have e2:=hkf.cell 2;simp at e0 e1 e2;have eL:=hkf.lt;have HRC:=ze hrc;have HRF:=ze hrf;clear hrc hrf hkf
     go_upto_region 11 with fail
     refine yg (S:=fun w' =>Hid (Below wr.heap.size wr w')/\w'.cell? ⟨w.heap.size,1,none⟩=some (.slice (some ad) k1 c1)/\w'.cell? ⟨(ad.add (m*5)).block,(ad.add (m*5)).off+2,none⟩=some (.int .i64 (n.pt m:Int))/\w'.cell? ⟨gc,m*3,none⟩=some (.bool nc)/\w'.cell? ⟨gc,m*3+1,none⟩=some (.slice Xc xc yc)/\w'.cell? ⟨gc,m*3+2,none⟩=some (.slice Zc zc tc)/\w'.cell? ⟨wb.heap.size,0,none⟩=some (.bool nf)/\w'.cell? ⟨wb.heap.size,1,none⟩=some (.slice Xf xf yf)/\w'.cell? ⟨wb.heap.size,2,none⟩=some (.slice Zf zf tf)) 5 1 6 rfl (by kernel_rfl) (by kernel_rfl) (by kernel_rfl) rfl (zx (z8 wr) (fun hB=>⟨zk hB rL r1,vI hB hb p2,zk hB lC a0,zk hB lC a1,zk hB lC a2,zk hB eL e0,zk hB eL e1,zk hB eL e2⟩)) ?_ (fun hHeld=>?_)
     . intro _ _ _ _ _ h9;exact h9
     simp only [List.take_succ_cons,List.take_zero]
     iterate 5 (refine xz (v:=?_) ?_ ?_;rotate_left;(focus (as_aux_lemma=>(intro w9 hSw;(try dsimp only at hSw);go_split_ands;go_simp;try with_reducible rfl)));try simp only [Act.put,List.setIfInBounds_toArray,List.set_cons_zero,List.set_cons_succ])
     refine vk ?_;refine HH.ready (rs:=[5]) (by kernel_rfl) (by simp) (by kernel_rfl) ?_;refine zT.cons (o:=_) rfl (fun K hK=>?_) zT.nil
     go_simp
     go_at_call 33;refine (XF _ _ _ _ _ (HRF.out.below (z8 wr).out) (HRC.out.below (z8 wr).out) HD1.out HD2.out).mono ?_;rintro e w8 ⟨v8,rfl,hv8,hb8⟩;have HV8:=ze hv8;clear hv8;have hH0:=hHeld;clear hHeld;refine hK.out _ _ (zx (zu hb8 hH0.1) (fun hB=>⟨zk hB rL r1,vI hB hb p2,zk hB lC a0,zk hB lC a1,zk hB lC a2,zk hB eL e0,zk hB eL e1,zk hB eL e2⟩)) (fun hHeld=>?_);clear hH0 hK K
     try simp only [Act.put,List.setIfInBounds_toArray,List.set_cons_zero,List.set_cons_succ]
     have hH9:=hHeld;have HBY:=(hHeld.1).out;replace HFB:=ze (zas.below HFB.out HBY);replace HB:=eb_ HB HBY;clear HBY hHeld;refine HH.done (by kernel_rfl) ?_;simp only [List.drop_succ_cons,List.drop_zero];obtain ⟨hH0,r1,p2,_,_,_,_,_,_⟩:=hH9;have rL:=Nat.lt_of_lt_of_le rL hH0.out.size;clear hH0 HRC HRF a0 a1 a2 e0 e1 e2 eL lC HD1 HD2 p1 p0 p3 p4 hb r0 r2 r3;obtain ⟨ng,X,n3,c8,Y,m2,d2,rfl,hv0⟩:=HV8.out;obtain ⟨_,_,_,_,_,_,_,hkg,_⟩:=HFB.out;have HFS:=ze (VB HFB.out HV8.out);rw [<- HST.out] at HFS;have HBS:=ze (zZ (ng:=ng) (A:=X) (n:=n3) (c:=c8) (B:=Y) (m:=m2) (d:=d2) HB.out (Nat.le_refl _));have f0:=hkg.frozen 0;have f1:=hkg.frozen 1;have f2:=hkg.frozen 2;have u0:=hkg.cell 0;have u1:=hkg.cell 1;have u2:=hkg.cell 2;simp at u0 u1 u2;clear hv0 hkg HFB HB HV8 hb8
     skip
     go_wp2_with fail;go_roundw
     case rel=>exact ⟨m+1,by omega,by go_num,HFS,HBS⟩
     case measure=>simp [intOf];omega
   rw [if_pos hp1] at hst
   have hI1:((n.pf m:Int) == (i:Int))=true:=by rw [beq_iff_eq,hp1]
   have hne2:n.pt m≠i:=fun h=>HPN.out m hin (hp1.trans h.symm)
   have hI2:((n.pt m:Int) == (i:Int))=false:=by rw [beq_eq_false_iff_ne];omega
   have HST:=ze hst;clear hp1 hne2 hst;obtain ⟨gc,eC,lC,nc,Xc,xc,yc,Zc,zc,tc,a0,a1,a2,hrc⟩:=(HV.out.below (ext HW.out (ext HBB.out HB.out))).at_ hin;subst eC;obtain ⟨nf,Xf,xf,yf,Zf,zf,tf,hkf,hrf⟩:=HFB.out;have e0:=hkf.cell 0;have e1:=hkf.cell 1;have e2:=hkf.cell 2;simp at e0 e1 e2;have eL:=hkf.lt;have HRC:=ze hrc;have HRF:=ze hrf;clear hrc hrf hkf
   go_upto_region 9 with fail
   refine yg (S:=fun w' =>Hid (Below wr.heap.size wr w')/\w'.cell? ⟨w.heap.size,1,none⟩=some (.slice (some ad) k1 c1)/\w'.cell? ⟨(ad.add (m*5)).block,(ad.add (m*5)).off+2,none⟩=some (.int .i64 (n.pt m:Int))/\w'.cell? ⟨gc,m*3,none⟩=some (.bool nc)/\w'.cell? ⟨gc,m*3+1,none⟩=some (.slice Xc xc yc)/\w'.cell? ⟨gc,m*3+2,none⟩=some (.slice Zc zc tc)/\w'.cell? ⟨wb.heap.size,0,none⟩=some (.bool nf)/\w'.cell? ⟨wb.heap.size,1,none⟩=some (.slice Xf xf yf)/\w'.cell? ⟨wb.heap.size,2,none⟩=some (.slice Zf zf tf)) 5 1 6 rfl (by kernel_rfl) (by kernel_rfl) (by kernel_rfl) rfl (zx (z8 wr) (fun hB=>⟨zk hB rL r1,vI hB hb p2,zk hB lC a0,zk hB lC a1,zk hB lC a2,zk hB eL e0,zk hB eL e1,zk hB eL e2⟩)) ?_ (fun hHeld=>?_)
   . intro _ _ _ _ _ h9;exact h9
   simp only [List.take_succ_cons,List.take_zero]
   iterate 5 (refine xz (v:=?_) ?_ ?_;rotate_left;(focus (as_aux_lemma=>(intro w9 hSw;(try dsimp only at hSw);go_split_ands;go_simp;try with_reducible rfl)));try simp only [Act.put,List.setIfInBounds_toArray,List.set_cons_zero,List.set_cons_succ])
   refine vk ?_;refine HH.ready (rs:=[5]) (by kernel_rfl) (by simp) (by kernel_rfl) ?_;refine zT.cons (o:=_) rfl (fun K hK=>?_) zT.nil
   go_simp
   go_at_call 31;refine (vz _ _ _ _ _ (HRF.out.below (z8 wr).out) (HRC.out.below (z8 wr).out) HD1.out HD2.out).mono ?_;rintro e w8 ⟨v8,rfl,hv8,hb8⟩;have HV8:=ze hv8;clear hv8;have hH0:=hHeld;clear hHeld;refine hK.out _ _ (zx (zu hb8 hH0.1) (fun hB=>⟨zk hB rL r1,vI hB hb p2,zk hB lC a0,zk hB lC a1,zk hB lC a2,zk hB eL e0,zk hB eL e1,zk hB eL e2⟩)) (fun hHeld=>?_);clear hH0 hK K
   try simp only [Act.put,List.setIfInBounds_toArray,List.set_cons_zero,List.set_cons_succ]
   have hH9:=hHeld;have HBY:=(hHeld.1).out;replace HFB:=ze (zas.below HFB.out HBY);replace HB:=eb_ HB HBY;clear HBY hHeld;refine HH.done (by kernel_rfl) ?_;simp only [List.drop_succ_cons,List.drop_zero];obtain ⟨hH0,r1,p2,_,_,_,_,_,_⟩:=hH9;have rL:=Nat.lt_of_lt_of_le rL hH0.out.size;clear hH0 HRC HRF a0 a1 a2 e0 e1 e2 eL lC HD1 HD2 p1 p0 p3 p4 hb r0 r2 r3;obtain ⟨ng,X,n3,c8,Y,m2,d2,rfl,hv0⟩:=HV8.out;obtain ⟨_,_,_,_,_,_,_,hkg,_⟩:=HFB.out;have HFS:=ze (VB HFB.out HV8.out);rw [<- HST.out] at HFS;have HBS:=ze (zZ (ng:=ng) (A:=X) (n:=n3) (c:=c8) (B:=Y) (m:=m2) (d:=d2) HB.out (Nat.le_refl _));have f0:=hkg.frozen 0;have f1:=hkg.frozen 1;have f2:=hkg.frozen 2;have u0:=hkg.cell 0;have u1:=hkg.cell 1;have u2:=hkg.cell 2;simp at u0 u1 u2;clear hv0 hkg HFB HB HV8 hb8
   have hgne:w.heap.size≠wb.heap.size:=by
    have h1:=HK.out.lt;have h2:=HBB.out.size
    omega
   obtain ⟨ad0,e9,hb0,_,_,_,_,_⟩:=HP1.out.at_ hin;injection e9 with e9
   subst e9
   have hgp:(ad.add (m*5)).block≠wb.heap.size:=by
    have h3:(ad.add (m*5)).block<w.heap.size:=by
     first
     | exact hb0
     | (rw [zy];exact hb0)
    have h1:=HK.out.lt;have h2:=HBB.out.size
    omega
   have r1:=zM (ng:=ng) (A:=X) (n:=n3) (c:=c8) (B:=Y) (m:=m2) (d:=d2) hgne r1;have p2:=zM (ng:=ng) (A:=X) (n:=n3) (c:=c8) (B:=Y) (m:=m2) (d:=d2) hgp p2;have rL:=Nat.lt_of_lt_of_le rL (Nat.le_of_eq (show w8.heap.size=(World.ref w8 wb.heap.size ng X n3 c8 Y m2 d2).heap.size by simp [World.ref,World.setCell,Array.size_modify]));clear hgne hgp hb0
   go_upto_region 10 with fail
   obtain ⟨w4,hW9⟩:∃ x,x=World.ref w8 wb.heap.size ng X n3 c8 Y m2 d2:=⟨_,rfl⟩;rw [<- hW9] at HFS HBS r1 p2 rL;have hW8:((w8.setCell ⟨wb.heap.size,0,none⟩ (.bool ng)).setCell ⟨wb.heap.size,1,none⟩ (.slice X n3 c8)).setCell ⟨wb.heap.size,2,none⟩ (.slice Y m2 d2)=w4:=hW9.symm;rw [hW8];clear hW8 hW9 f0 f1 f2 u0 u1 u2;go_wp2_with fail;go_roundw
   case rel=>exact ⟨m+1,by omega,by go_num,HFS,HBS⟩
   case measure=>simp [intOf];omega
end Go.Proofs.YtacfcmdlgebhgaaGreat
