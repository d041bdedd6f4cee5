/- Parts of the proof: memory, numbers, walks of the functions that are called. -/
import Derived.Test.YtnpbflhjglkokaaGreatDoorMr29
set_option linter.unusedVariables false
set_option linter.unusedSimpArgs false
set_option maxRecDepth 100000
set_option maxHeartbeats 32000000
namespace Go.Proofs.YtnpbflhjglkokaaGreatDoor
open Go.RowKit Go.Deep
attribute [local go_sem ↓] Go.wp_at_zero Go.wp_at_succ
def xz (f:Nat->Nat) (u:Int):Nat->Option Nat
 | 0=>none
 | n+1=>match xz f u n with
   | some j=>some j
   | none=>if (f n:Int)=u then some n else none
theorem Y7 {f:Nat->Nat} {u:Int}:∀ {n:Nat},(∀ j,j<n->(f j:Int)≠u)->xz f u n=none
 | 0,_=>rfl
 | n+1,h=>by
   unfold xz;rw [Y7 (n:=n) (fun j hj=>h j (by omega))];exact if_neg (h n (by omega))
theorem Vl {f:Nat->Nat} {u:Int} {i:Nat} (hi:(f i:Int)=u) (hl:∀ j,j<i->(f j:Int)≠u):∀ {n:Nat},i<n->xz f u n=some i
 | 0,h=>by omega
 | n+1,h=>by
   unfold xz
   by_cases e:i=n
   . subst e
     rw [Y7 hl];exact if_pos hi
   . rw [Vl hi hl (n:=n) (by omega)]
def IxR (w0:World) (f:Nat->Nat) (u:Int) (n:Nat) (iv:Value) (wr:World):Prop:=∃ i:Nat,i<=n/\iv= .int .i64 i/\Hid (∀ j,j<i->(f j:Int)≠u)/\w0=wr
theorem zav (g n c:Nat) (f:Nat->Nat) (u:Int) (w:World) (hn:n<=1000000) (h:∀ i,i<n->w.cell? ⟨g,i,none⟩=some (.int .i64 (f i:Nat))):
 Calls Tryz.prog 233 #[.slice (some ⟨g,0,none⟩) n c,.int .i64 u] w (XT w (.int .i64 (ze2 (xz f u n)))):=by
 have HH:=ze h
 clear h
 go_enter Tryz.func233,Tryz.ntmps233
 go_wp2_with fail
 go_loopw [8] (IxR w f u n) (fun iv _=>n - (intOf iv).toNat)
 case atStart=>exact ⟨0,Nat.zero_le _,rfl,(fun j hj=>by omega),rfl⟩
 case round=>
  obtain ⟨i,hi,rfl,HJ,rfl⟩:=hrel
  by_cases hil:i<n
  . have hii:(i:Int)<(n:Int):=by omega
    have c1:=HH.out i hil
    by_cases he:u=(f i:Int)
    . have d1:(u == (f i:Int))=true:=by rw [beq_iff_eq];exact he
      have HE:=ze (Vl (f:=f) (u:=u) he.symm HJ.out hil);clear he;go_wp2_with fail;go_ret;exact ⟨by rw [HE.out];rfl,rfl⟩
    . have d1:(u == (f i:Int))=false:=by rw [beq_eq_false_iff_ne];exact he
      have HJ2:Hid (∀ j,j<i+1->(f j:Int)≠u):=fun j hj=>by
       by_cases e:j=i
       . subst e;exact fun h=>he h.symm
       . exact HJ.out j (by omega)
      clear he HJ;go_wp2_with fail;go_round
      case rel=>exact ⟨i+1,by omega,by go_num,HJ2,rfl⟩
      case measure=>simp [intOf];omega
  . obtain rfl:n=i:=by omega
    have HE:=ze (Y7 (f:=f) (u:=u) HJ.out);go_wp2_with fail;go_ret;exact ⟨by rw [HE.out];rfl,rfl⟩
theorem zez (base m L:Nat) (F:zN) (T:ym) (vn:Value) (z:Int) (w:World) (hT:zW base m L F w T) (hn:zO w vn z) (hz:len 4294967296 z.natAbs<=33554432) (hd:Fit T.den) (hd0:T.den≠0):
 Calls Tryz.prog 238 #[.pointer (some ⟨F.gt,0,none⟩),vn] w (zdq w (Rat.divInt z T.den)):=by
 obtain ⟨x2,A2,k2,c2,s2,rfl,_,_,_⟩:=hn.form
 obtain ⟨W0,hW0⟩:∃ x,x=(w.alloc (.cells #[.int .i64 x2,.slice A2 k2 c2,.bool s2] 109)).alloc (.cells #[.int .i64 0,.slice none 0 0,.bool false,.int .i64 0,.slice none 0 0,.bool false] 111):=⟨_,rfl⟩
 have hx:=ext (zf w (.cells #[.int .i64 x2,.slice A2 k2 c2,.bool s2] 109)) (zf _ (.cells #[.int .i64 0,.slice none 0 0,.bool false,.int .i64 0,.slice none 0 0,.bool false] 111))
 have hk1:=(Blk.new w 109 #[.int .i64 x2,.slice A2 k2 c2,.bool s2]).alloc (.cells #[.int .i64 0,.slice none 0 0,.bool false,.int .i64 0,.slice none 0 0,.bool false] 111)
 have hk2:=Blk.new (w.alloc (.cells #[.int .i64 x2,.slice A2 k2 c2,.bool s2] 109)) 111 #[.int .i64 0,.slice none 0 0,.bool false,.int .i64 0,.slice none 0 0,.bool false]
 simp only [World.size_alloc] at hk2
 rw [<- hW0] at hx hk1 hk2
 have HW:=ze hx
 have HN:=ze (hn.below hx)
 have HT:=hT.below hx
 have HK2:=ze hk2
 obtain ⟨⟨dx,dA,dn,dc,dg,hblk,hden⟩,_⟩:=HT
 have HD:=ze hden
 have d4:W0.cell? ⟨F.gt,4,none⟩=some (.int .i64 dx):=by rw [hblk.cell];rfl
 have d5:W0.cell? ⟨F.gt,5,none⟩=some (.slice dA dn dc):=by rw [hblk.cell];rfl
 have d6:W0.cell? ⟨F.gt,6,none⟩=some (.bool dg):=by rw [hblk.cell];rfl
 have tL:=hblk.lt
 have r0:=hk1.cell 0
 have r1:=hk1.cell 1
 have r2:=hk1.cell 2
 simp at r0 r1 r2
 have rL:=hk1.lt
 have HZ:=ze hz
 have HDF:=ze hd
 have HD0:=ze hd0
 clear hn hx hk1 hk2 hblk hden hT hz hd hd0
 go_enter Tryz.func238,Tryz.ntmps238
 go_upto_region 1 with fail
 rw [<- hW0]
 clear hW0
 refine zq (S:=fun w' =>Hid (Below W0.heap.size W0 w')/\w'.cell? ⟨w.heap.size,0,none⟩=some (.int .i64 x2)/\w'.cell? ⟨w.heap.size,1,none⟩=some (.slice A2 k2 c2)/\w'.cell? ⟨w.heap.size,2,none⟩=some (.bool s2)/\w'.cell? ⟨F.gt,4,none⟩=some (.int .i64 dx)/\w'.cell? ⟨F.gt,5,none⟩=some (.slice dA dn dc)/\w'.cell? ⟨F.gt,6,none⟩=some (.bool dg)) 5 1 6 rfl (by kernel_rfl) (by kernel_rfl) (by kernel_rfl) rfl (zl (zz W0) (fun hB=>⟨zh hB rL r0,zh hB rL r1,zh hB rL r2,zh hB tL d4,zh hB tL d5,zh hB tL d6⟩)) ?_ (fun hHeld=>?_)
 . intro _ _ _ _ _ h9;exact h9
 simp only [List.take_succ_cons,List.take_zero]
 iterate 5 (refine zD (v:=?_) ?_ ?_;rotate_left;(focus (as_aux_lemma=>(intro w9 hSw;(try dsimp only at hSw);go_split_ands;go_simp;try with_reducible rfl)));try simp only [Act.put,List.setIfInBounds_toArray,List.set_cons_zero,List.set_cons_succ])
 refine zI ?_
 refine HH.ready (rs:=[5]) (by kernel_rfl) (by simp) (by kernel_rfl) ?_
 refine zu.cons (o:=_) rfl (fun K hK=>?_) zu.nil
 go_simp
 go_at_call 112
 refine (Z6 _ _ _ _ _ (HN.out.below hHeld.1.out) (HD.out.below hHeld.1.out) HD0.out HZ.out (Nat.le_trans HDF.out (by omega))).mono ?_
 rintro e w1 ⟨v,rfl,hv,hb1⟩
 have HV:=ze hv
 clear hv
 have hH0:=hHeld
 clear hHeld
 refine hK.out _ _ (zl (zt hb1 hH0.1) (fun hB=>⟨zh hB rL r0,zh hB rL r1,zh hB rL r2,zh hB tL d4,zh hB tL d5,zh hB tL d6⟩)) (fun hHeld=>?_)
 clear hH0 hK K
 try simp only [Act.put,List.setIfInBounds_toArray,List.set_cons_zero,List.set_cons_succ]
 clear hb1
 have HBY:=(hHeld.1).out
 try clear e0 e1 e2 e3 e4 e5 eL
 replace HW:=eb_ HW HBY
 replace HN:=ze (HN.out.below HBY)
 replace HD:=ze (HD.out.below HBY)
 replace HK2:=kb_ HK2 HBY
 clear HBY hHeld
 refine HH.done (by kernel_rfl) ?_
 simp only [List.drop_succ_cons,List.drop_zero]
 obtain ⟨e0,e1,e2,e3,e4,e5,eL⟩:=bkc6 HK2.out
 obtain ⟨x,A,k,c,s,y,B,k',c',t,rfl,hv1,hv2⟩:=HV.out
 have f0:=HK2.out.frozen 0
 have f1:=HK2.out.frozen 1
 have f2:=HK2.out.frozen 2
 have f3:=HK2.out.frozen 3
 have f4:=HK2.out.frozen 4
 have f5:=HK2.out.frozen 5
 have kR4:=ys (x:=x) (A:=A) (k:=k) (c:=c) (s:=s) (y:=y) (B:=B) (k' :=k') (c' :=c') (t:=t) HK2.out
 have q0:=kR4.cell 0
 have q1:=kR4.cell 1
 have q2:=kR4.cell 2
 have q3:=kR4.cell 3
 have q4:=kR4.cell 4
 have q5:=kR4.cell 5
 simp only [World.rat] at q0 q1 q2 q3 q4 q5
 simp at q0 q1 q2 q3 q4 q5
 have HR1:=ze (yz (x:=x) (A:=A) (k:=k) (c:=c) (s:=s) (y:=y) (B:=B) (k' :=k') (c' :=c') (t:=t) hv1 HK2.out)
 have HR2:=ze (yz (x:=x) (A:=A) (k:=k) (c:=c) (s:=s) (y:=y) (B:=B) (k' :=k') (c' :=c') (t:=t) hv2 HK2.out)
 have HWR:Hid (Below w.heap.size w (World.rat w1 (w.heap.size+1) x A k c s y B k' c' t)):=yd HW.out (by omega)
 clear hv1 hv2 kR4 HV HN HD r0 r1 r2 d4 d5 d6 tL rL
 go_wp2_with fail
 refine bodyPost_ret (v:=.agg #[.int .i64 x,.slice A k c,.bool s,.int .i64 y,.slice B k' c',.bool t]) (by simp [results,Tryz.results238,go_sem,q0,q1,q2,q3,q4,q5]) rfl ?_
 exact ⟨_,rfl,⟨_,_,_,_,_,_,_,_,_,_,rfl,HR1.out,HR2.out⟩,HWR.out⟩
theorem zW.chgRow {base m L:Nat} {F:zN} {w w' :World} {T:ym} {gl n:Nat} {f:Nat->Int} (h:zW base m L F w T) (hr:xb w gl L n f) (hc:Chg (· =gl) w w') (hne:∀ i,i<=m->F.g i≠gl):zW base m L F w' T:=by
 obtain ⟨⟨x,A,k,c,ng,h1,h2⟩,h3,h4,h5,h6,h7,h8⟩:=h
 obtain ⟨cs,hb⟩:=hr.heap
 have hS:∀ b,b=gl->ye w b:=fun b e=>by subst e;exact hr.noDig
 have hown:∀ e v size k xs,e≠109->vp w base e size v k xs->∀ b,v.ownBlock=some b->¬ b=gl:=fun e v size k xs he ho b hb2 e2=>by
  obtain ⟨cs2,k2⟩:=ho.heap hb2
  exact xo hb k2 (fun e3=>he e3.symm) e2.symm
 exact ⟨⟨x,A,k,c,ng,hc.blk h1 (xo h1 hb (by decide)),hc.num h2 hS⟩,h3.chg hc (fun i hi=>hne i (by omega)) (hown _ _ _ _ _ (by decide) h3.own) hS,
  h4.chg hc (hown _ _ _ _ _ (by decide) h4),h5.chg hc (hown _ _ _ _ _ (by decide) h5),h6,h7,h8⟩
theorem zlx {S:Nat->Prop} {w w1 w2:World} (h:Chg S w w1) (hb:Below w1.heap.size w1 w2):Chg S w w2:=h.trans (Chg.of_below (S:=S) hb) (fun _ _ h=>h)
theorem zkm {S:Nat->Prop} {w w1 w2:World} (h:Chg S w w1) (hb:Below w1.heap.size w1 w2):Chg S w w2:=h.trans (Chg.of_below (S:=S) hb) (fun _ _ h=>h)
theorem za8 {f:Nat->Nat} {u:Int}:∀ (n i:Nat),xz f u n=some i->i<n:=by
 intro n
 induction n with
 | zero=>intro i h;cases h
 | succ n ih=>
   intro i h;unfold xz at h
   split at h
   . next j hj=>injection h with h;subst h;have:=ih _ hj;omega
   . split at h
     . injection h with h;omega
     . cases h
def Yv (T:ym) (m L:Nat) (u z:Int) (k:Nat):Int:=match xz T.basic u m with
 | some i=>T.cell i k*z
 | none=>if (k:Int)=ze2 (xz T.other u (L - 1))+1 then T.den*z else 0
def zot (T:ym) (m L gl:Nat) (f:Nat->Int) (u z:Int) (w:World) (e:Ending) (w' :World):Prop:=e= .returned (.tuple #[])/\xb w' gl L L (fun k=>f k+Yv T m L u z k)/\Chg (· =gl) w w'
def CntR (w0:World) (base m L:Nat) (F:zN) (T:ym) (gl gv i:Nat) (f:Nat->Int) (z:Int) (kv:Value) (wr:World):Prop:=
 ∃ k:Nat,k<=L/\kv= .int .i64 k/\Hid (xb wr gl L L (fun j=>if j<k then f j+T.cell i j*z else f j))/\Hid (zW base m L F wr T)/\Hid (vY wr gv z)/\Hid (Chg (· =gl) w0 wr)
theorem Vd (base m L:Nat) (F:zN) (T:ym) (gl:Nat) (f:Nat->Int) (u:Int) (vn:Value) (z:Int) (w:World) (hT:zW base m L F w T) (hr:xb w gl L L f) (hn:zO w vn z) (hne:∀ i,i<=m->F.g i≠gl) (hf:T.Fits m L) (hz:Fit z)
 (hl:∀ k,k<L->len 4294967296 (f k).natAbs<=67108864) (hm:m<=100000) (hL:L<=100000) (hm0:0<m) (hu:xz T.basic u m=none->xz T.other u (L - 1)≠none):
 Calls Tryz.prog 234 #[.pointer (some ⟨F.gt,0,none⟩),.slice (some ⟨gl,0,none⟩) L L,.int .i64 u,vn] w (zot T m L gl f u z w):=by
 obtain ⟨x2,A2,k2,c2,s2,rfl,_,_,_⟩:=hn.form
 obtain ⟨W0,hW0⟩:∃ x,x=w.alloc (.cells #[.int .i64 x2,.slice A2 k2 c2,.bool s2] 109):=⟨_,rfl⟩
 have hx:=zf w (.cells #[.int .i64 x2,.slice A2 k2 c2,.bool s2] 109)
 have hk1:=Blk.new w 109 #[.int .i64 x2,.slice A2 k2 c2,.bool s2]
 rw [<- hW0] at hx hk1
 have HV:Hid (vY W0 w.heap.size z):=⟨_,_,_,_,_,hk1,hn.below hx⟩
 have HGL:=ze hr.lt
 have HT:=ze (hT.below hx)
 have HR:=ze (hr.below hx)
 have HC:Hid (Chg (· =gl) w W0):=Chg.of_below hx
 have HNE:=ze hne
 have HF:=ze hf
 have HZ:=ze hz
 have HL:=ze hl
 have HU:=ze hu
 clear hn hx hk1 hT hr hne hf hz hl hu
 obtain ⟨gb,cb,eb,hgb,hbc⟩:=HT.out.basics hm0
 have t7:=HT.out.cell7
 rw [eb] at t7
 have hix:=zav gb m cb T.basic u W0 (by omega) hbc
 have HIX:=ze hix
 clear hix hbc
 go_enter Tryz.func234,Tryz.ntmps234
 go_upto_region 1 with fail
 rw [<- hW0]
 clear hW0
 generalize w.heap.size=gv at HV HGL |-
 go_wp2_with fail
 refine HIX.out.mono ?_
 rintro e w1 ⟨rfl,rfl⟩
 cases hfi:xz T.basic u m with
 | some i=>
   have him:i<m:=za8 _ _ hfi;have d1:decide ((i:Int) ≥ 0)=true:=by rw [decide_eq_true_iff];omega
   have d3:ze2 (some i)=(i:Int):=rfl;have HFI:=ze hfi;rw [d3];clear hfi d3 HIX t7;have hL0:(0:Int)<=(L:Int):=by omega
   go_wp2_with fail
   go_loopw [21] (CntR w base m L F T gl gv i f z) (fun kv _=>L - (intOf kv).toNat)
   case atStart=>exact ⟨0,Nat.zero_le _,rfl,HR.out.fewer (fun k hk=>⟨hk,by simp⟩),HT,HV,HC⟩
   case round=>
    clear HR HT HV HC;obtain ⟨k,hk,rfl,HR,HT,HV,HC⟩:=hrel
    by_cases hkl:k<L
    . have hki:(k:Int)<(L:Int):=by omega
      have hii:(i:Int)<(m:Int)+1:=by omega
      have t3:=HT.out.cell3;have t4:=HT.out.mat.cell (i:=i) (by omega);obtain ⟨ax,aA,an,ac,ag,a0,a1,a2,ha⟩:=HR.out.2 k hkl;simp only [Nat.lt_irrefl,if_false] at ha;obtain ⟨bx,bA,bn,bc,bg,b0,b1,b2,hbn⟩:=HT.out.mat.at_ (i:=i) (k:=k) (by omega) hkl;obtain ⟨vx,vA,vn,vc,vg,hkv,hvn⟩:=HV.out;have q0:=hkv.cell 0;have q1:=hkv.cell 1;have q2:=hkv.cell 2;simp at q0 q1 q2;have tL:=HT.out.lt;have mL:=HT.out.mat.lt.2;have aL:=HR.out.lt;have bL:=(HT.out.mat.rows i (by omega)).2.lt;have vL:=hkv.lt;have HA:=ze ha;have HBN:=ze hbn;have HVN:=ze hvn;have N1:=ze (HF.out.cell i k (by omega) hkl);clear ha hbn hkv hvn
      go_upto_region 6 with fail
      refine zq (S:=fun w' =>Hid (Below wr.heap.size wr w')/\w'.cell? ⟨F.gt,3,none⟩=some (.slice (some ⟨F.gm,0,none⟩) (m+1) F.cm)/\w'.cell? ⟨F.gm,i,none⟩=some (.slice (some ⟨F.g i,0,none⟩) L L)/\w'.cell? ⟨gl,k*3,none⟩=some (.int .i64 ax)/\w'.cell? ⟨gl,k*3+1,none⟩=some (.slice aA an ac)/\w'.cell? ⟨gl,k*3+2,none⟩=some (.bool ag)/\w'.cell? ⟨F.g i,k*3,none⟩=some (.int .i64 bx)/\w'.cell? ⟨F.g i,k*3+1,none⟩=some (.slice bA bn bc)/\w'.cell? ⟨F.g i,k*3+2,none⟩=some (.bool bg)/\w'.cell? ⟨gv,0,none⟩=some (.int .i64 vx)/\w'.cell? ⟨gv,1,none⟩=some (.slice vA vn vc)/\w'.cell? ⟨gv,2,none⟩=some (.bool vg)) 17 3 20 rfl (by kernel_rfl) (by kernel_rfl) (by kernel_rfl) rfl (zl (zz wr) (fun hB=>⟨zh hB tL t3,zh hB mL t4,zh hB aL a0,zh hB aL a1,zh hB aL a2,zh hB bL b0,zh hB bL b1,zh hB bL b2,zh hB vL q0,zh hB vL q1,zh hB vL q2⟩)) ?_ (fun hHeld=>?_)
      . intro _ _ _ _ _ h9;exact h9
      simp only [List.take_succ_cons,List.take_zero]
      iterate 17 (refine zD (v:=?_) ?_ ?_;rotate_left;(focus (as_aux_lemma=>(intro w9 hSw;(try dsimp only at hSw);go_split_ands;go_simp;try with_reducible rfl)));try simp only [Act.put,List.setIfInBounds_toArray,List.set_cons_zero,List.set_cons_succ])
      refine zI ?_;refine HH.ready (rs:=[17]) (by kernel_rfl) (by simp) (by kernel_rfl) ?_;refine zu.cons (o:=_) rfl (fun K hK=>?_) zu.nil
      go_simp
      go_at_call 161;refine (xq _ _ _ _ _ (HBN.out.below hHeld.1.out) (HVN.out.below hHeld.1.out) (N1.out.le2 (by omega)) (HZ.out.le2 (by omega))).mono ?_;rintro e w2 ⟨v1,rfl,hv,hb2⟩;have HX1:=ze hv;have HHB2:=ze hb2;clear hv;have hH0:=hHeld;clear hHeld;refine hK.out _ _ (zl (zt hb2 hH0.1) (fun hB=>⟨zh hB tL t3,zh hB mL t4,zh hB aL a0,zh hB aL a1,zh hB aL a2,zh hB bL b0,zh hB bL b1,zh hB bL b2,zh hB vL q0,zh hB vL q1,zh hB vL q2⟩)) (fun hHeld=>?_);clear hH0 hK K
      try simp only [Act.put,List.setIfInBounds_toArray,List.set_cons_zero,List.set_cons_succ]
      clear hb2;refine HH.ready (rs:=[18]) (by kernel_rfl) (by simp) (by kernel_rfl) ?_;refine zu.cons (o:=_) rfl (fun K hK=>?_) zu.nil
      go_simp
      go_at_call 194;refine (zbk _ _ _ _ _ (HA.out.below hHeld.1.out) HX1.out (HL.out k hkl) (Yo N1.out HZ.out (by omega))).mono ?_;rintro e w3 ⟨v2,rfl,hv,hb2⟩;have HX2:=ze hv;clear hv HX1;have HCB:=ze (zt hb2 hHeld.1);have hH0:=hHeld;clear hHeld;refine hK.out _ _ (zl (zt hb2 hH0.1) (fun hB=>⟨zh hB tL t3,zh hB mL t4,zh hB aL a0,zh hB aL a1,zh hB aL a2,zh hB bL b0,zh hB bL b1,zh hB bL b2,zh hB vL q0,zh hB vL q1,zh hB vL q2⟩)) (fun hHeld=>?_);clear hH0 hK K
      try simp only [Act.put,List.setIfInBounds_toArray,List.set_cons_zero,List.set_cons_succ]
      clear hb2;refine HH.take 19 (oi:=_) (v:=?_) rfl (by kernel_rfl) (by kernel_rfl) (by kernel_rfl) (fun _ _ _ h=>h) (Or.inl ⟨by rfl,?_⟩) ‹_› ?_;rotate_left
      . (intro w9 hSw;(try dsimp only at hSw);go_split_ands;go_simp;try with_reducible rfl)
      try simp only [Act.put,List.getElem_toArray,List.getElem_cons_succ,List.getElem_cons_zero,List.setIfInBounds_toArray,List.set_cons_zero,List.set_cons_succ]
      have HBY:=(hHeld.1).out;replace HR:=ze (xb.below HR.out HBY);replace HT:=ze (zW.below HT.out HBY);replace HV:=ze (vY.below HV.out HBY);clear HBY hHeld;refine HH.done (by kernel_rfl) ?_;simp only [List.drop_succ_cons,List.drop_zero];replace HC:=ze (zlx HC.out HCB.out.out);clear HA HBN HVN N1 a0 a1 a2 b0 b1 b2 q0 q1 q2 tL mL aL bL vL t3 t4 HHB2 HCB;obtain ⟨sx,sA,sn,sc,sg,rfl,_,_,_⟩:=HX2.out.form;obtain ⟨u0,u1,u2,s0,s1,s2⟩:=HR.out.slots hkl;have z0:=HR.out.frozen (k*3);have z1:=HR.out.frozen (k*3+1);have z2:=HR.out.frozen (k*3+2);have hcn:=ve (w:=w3) (g:=gl) (k:=k) (x:=sx) (A:=sA) (n:=sn) (c:=sc) (ng:=sg)
      have HR2:Hid (xb (World.numAt w3 gl k sx sA sn sc sg) gl L L (fun j=>if j<k+1 then f j+T.cell i j*z else f j)):=HR.out.set hkl HX2.out (fun j hj=>by
       by_cases e:j=k
       . exact .inl ⟨e,by subst e;rw [if_pos (by omega)]⟩
       . refine .inr ⟨e,hj,?_⟩
         by_cases h:j<k
         . rw [if_pos h,if_pos (by omega)]
         . rw [if_neg h,if_neg (by omega)])
      have HT2:=ze (HT.out.chgRow HR.out hcn HNE.out);have hgv:gv≠gl:=by have:=HGL.out;omega
      have HV2:=ze (HV.out.chg hcn hgv (fun b e=>by subst e;exact HR.out.noDig));have HC2:Hid (Chg (· =gl) w (World.numAt w3 gl k sx sA sn sc sg)):=HC.out.trans hcn (fun _ _ h=>h);clear HR HT HV HC HX2 hcn hgv;go_wp2_with fail;go_roundw
      case rel=>first | exact ⟨k+1,by omega,by go_num,HR2,HT2,HV2,HC2⟩ | ((repeat apply Exists.intro);exact ⟨⟨k+1,by omega,by go_num,HR2,HT2,HV2,HC2⟩,rfl⟩)
      case measure=>simp [intOf];omega
    . obtain rfl:L=k:=by omega
      go_wp2_with fail
      go_end0
      refine ⟨rfl,HR.out.fewer (fun j hj=>⟨hj,?_⟩),HC.out⟩;unfold Yv;rw [HFI.out];simp only [if_pos hj]
 | none=>
   obtain ⟨kk,hkk⟩:=Option.ne_none_iff_exists'.1 (HU.out hfi);have hkl:kk<L - 1:=za8 _ _ hkk;have d1:decide (ze2 none ≥ 0)=false:=by decide
   have d3:ze2 none= -1:=rfl;have d4:ze2 (some kk)=(kk:Int):=rfl;obtain ⟨go,co,eo,hgo,hoc⟩:=HT.out.others;have t8:=HT.out.cell8;rw [eo] at t8;have hix:=zav go (L - 1) co T.other u W0 (by omega) hoc;rw [hkk,d4] at hix;have HFI:=ze hfi;have HKK:=ze hkk;have e1:IntKind.i64.wrap ((kk:Int)+1)=(kk:Int)+1:=by rw [IntKind.wrap_i64];omega
   clear hfi hkk HIX t7 hoc d4;have HIX:=ze hix;clear hix;go_wp2_with fail;refine HIX.out.mono ?_;rintro e w1 ⟨rfl,rfl⟩;obtain ⟨k,hk⟩:∃ k,k=kk+1:=⟨_,rfl⟩;have ek:(kk:Int)+1=(k:Int):=by omega
   have hkl2:k<L:=by omega
   have HK:=ze hk;clear hk t8 hkl HIX;have hki:(k:Int)<(L:Int):=by omega
   have hki0:(0:Int)<=(k:Int):=by omega
   obtain ⟨ax,aA,an,ac,ag,a0,a1,a2,ha⟩:=HR.out.2 k hkl2;obtain ⟨dx,dA,dn,dc,dg,hblk,hden⟩:=HT.out.blk;have d4:W0.cell? ⟨F.gt,4,none⟩=some (.int .i64 dx):=by rw [hblk.cell];rfl
   have d5:W0.cell? ⟨F.gt,5,none⟩=some (.slice dA dn dc):=by rw [hblk.cell];rfl
   have d6:W0.cell? ⟨F.gt,6,none⟩=some (.bool dg):=by rw [hblk.cell];rfl
   obtain ⟨vx,vA,vn,vc,vg,hkv,hvn⟩:=HV.out;have q0:=hkv.cell 0;have q1:=hkv.cell 1;have q2:=hkv.cell 2;simp at q0 q1 q2;have tL:=hblk.lt;have aL:=HR.out.lt;have vL:=hkv.lt;have HA:=ze ha;have HDN:=ze hden;have HVN:=ze hvn;clear ha hblk hden hkv hvn
   go_upto_region 9 with fail
   refine zq (S:=fun w' =>Hid (Below W0.heap.size W0 w')/\w'.cell? ⟨gl,k*3,none⟩=some (.int .i64 ax)/\w'.cell? ⟨gl,k*3+1,none⟩=some (.slice aA an ac)/\w'.cell? ⟨gl,k*3+2,none⟩=some (.bool ag)/\w'.cell? ⟨F.gt,4,none⟩=some (.int .i64 dx)/\w'.cell? ⟨F.gt,5,none⟩=some (.slice dA dn dc)/\w'.cell? ⟨F.gt,6,none⟩=some (.bool dg)/\w'.cell? ⟨gv,0,none⟩=some (.int .i64 vx)/\w'.cell? ⟨gv,1,none⟩=some (.slice vA vn vc)/\w'.cell? ⟨gv,2,none⟩=some (.bool vg)) 11 3 14 rfl (by kernel_rfl) (by kernel_rfl) (by kernel_rfl) rfl (zl (zz W0) (fun hB=>⟨zh hB aL a0,zh hB aL a1,zh hB aL a2,zh hB tL d4,zh hB tL d5,zh hB tL d6,zh hB vL q0,zh hB vL q1,zh hB vL q2⟩)) ?_ (fun hHeld=>?_)
   . intro _ _ _ _ _ h9;exact h9
   simp only [List.take_succ_cons,List.take_zero]
   iterate 11 (refine zD (v:=?_) ?_ ?_;rotate_left;(focus (as_aux_lemma=>(intro w9 hSw;(try dsimp only at hSw);go_split_ands;go_simp;try with_reducible rfl)));try simp only [Act.put,List.setIfInBounds_toArray,List.set_cons_zero,List.set_cons_succ])
   refine zI ?_;refine HH.ready (rs:=[11]) (by kernel_rfl) (by simp) (by kernel_rfl) ?_;refine zu.cons (o:=_) rfl (fun K hK=>?_) zu.nil
   go_simp
   go_at_call 161;refine (xq _ _ _ _ _ (HDN.out.below hHeld.1.out) (HVN.out.below hHeld.1.out) (HF.out.fden.le2 (by omega)) (HZ.out.le2 (by omega))).mono ?_;rintro e w2 ⟨v1,rfl,hv,hb2⟩;have HX1:=ze hv;clear hv;have hH0:=hHeld;clear hHeld;refine hK.out _ _ (zl (zt hb2 hH0.1) (fun hB=>⟨zh hB aL a0,zh hB aL a1,zh hB aL a2,zh hB tL d4,zh hB tL d5,zh hB tL d6,zh hB vL q0,zh hB vL q1,zh hB vL q2⟩)) (fun hHeld=>?_);clear hH0 hK K
   try simp only [Act.put,List.setIfInBounds_toArray,List.set_cons_zero,List.set_cons_succ]
   clear hb2;refine HH.ready (rs:=[12]) (by kernel_rfl) (by simp) (by kernel_rfl) ?_;refine zu.cons (o:=_) rfl (fun K hK=>?_) zu.nil
   go_simp
   go_at_call 194;refine (zbk _ _ _ _ _ (HA.out.below hHeld.1.out) HX1.out (HL.out k hkl2) (Yo HF.out.fden HZ.out (by omega))).mono ?_;rintro e w3 ⟨v2,rfl,hv,hb2⟩;have HX2:=ze hv;clear hv HX1;have hH0:=hHeld;clear hHeld;refine hK.out _ _ (zl (zt hb2 hH0.1) (fun hB=>⟨zh hB aL a0,zh hB aL a1,zh hB aL a2,zh hB tL d4,zh hB tL d5,zh hB tL d6,zh hB vL q0,zh hB vL q1,zh hB vL q2⟩)) (fun hHeld=>?_);clear hH0 hK K
   try simp only [Act.put,List.setIfInBounds_toArray,List.set_cons_zero,List.set_cons_succ]
   clear hb2;refine HH.take 13 (oi:=_) (v:=?_) rfl (by kernel_rfl) (by kernel_rfl) (by kernel_rfl) (fun _ _ _ h=>h) (Or.inl ⟨by rfl,?_⟩) ‹_› ?_;rotate_left
   . (intro w9 hSw;(try dsimp only at hSw);go_split_ands;go_simp;try with_reducible rfl)
   try simp only [Act.put,List.getElem_toArray,List.getElem_cons_succ,List.getElem_cons_zero,List.setIfInBounds_toArray,List.set_cons_zero,List.set_cons_succ]
   have HBY:=(hHeld.1).out;replace HR:=ze (xb.below HR.out HBY);replace HC:=ze (zkm HC.out HBY);clear HBY hHeld;refine HH.done (by kernel_rfl) ?_;simp only [List.drop_succ_cons,List.drop_zero];clear HA HDN HVN a0 a1 a2 d4 d5 d6 q0 q1 q2 tL aL vL HT HV;obtain ⟨sx,sA,sn,sc,sg,rfl,_,_,_⟩:=HX2.out.form;obtain ⟨u0,u1,u2,s0,s1,s2⟩:=HR.out.slots hkl2;have z0:=HR.out.frozen (k*3);have z1:=HR.out.frozen (k*3+1);have z2:=HR.out.frozen (k*3+2);have hcn:=ve (w:=w3) (g:=gl) (k:=k) (x:=sx) (A:=sA) (n:=sn) (c:=sc) (ng:=sg)
   have HR2:Hid (xb (World.numAt w3 gl k sx sA sn sc sg) gl L L (fun j=>f j+Yv T m L u z j)):=HR.out.set hkl2 HX2.out (fun j hj=>by
    have hk:=HK.out;have e4:ze2 (some kk)=(kk:Int):=rfl;unfold Yv;rw [HFI.out,HKK.out];simp only [e4]
    by_cases e:j=k
    . exact .inl ⟨e,by subst e;rw [if_pos (by omega)]⟩
    . exact .inr ⟨e,hj,by rw [if_neg (by omega),Int.add_zero]⟩)
   have HC2:Hid (Chg (· =gl) w (World.numAt w3 gl k sx sA sn sc sg)):=HC.out.trans hcn (fun _ _ h=>h);clear HR HC HX2 hcn;go_wp2_with fail
   go_end0
   exact ⟨rfl,HR2.out,HC2.out⟩
theorem zfd (gt i:Nat) (A:Option Addr) (nn c:Nat) (w:World) (hc:w.cell? ⟨gt,2,none⟩=some (.slice A nn c)) (hn:nn<=100000) (hi:i<=100000):
 Calls Tryz.prog 231 #[.pointer (some ⟨gt,0,none⟩),.int .i64 (i:Nat)] w (XT w (.int .i64 ((2*nn+i:Nat):Int))):=by
 have h1:IntKind.i64.wrap (2*(nn:Int))=2*(nn:Int):=by rw [IntKind.wrap_i64];omega
 have h2:IntKind.i64.wrap (2*(nn:Int)+(i:Int))=2*(nn:Int)+(i:Int):=by rw [IntKind.wrap_i64];omega
 go_enter Tryz.func231,Tryz.ntmps231
 go_wp2_with fail
 go_ret
 exact ⟨by push_cast;rfl,rfl⟩
theorem zey:(Tryz.prog.info? 3).map (fun i=>(i.zero,i.size,i.bytes))=some (some (.int .i64 0),1,8):=by kernel_rfl
theorem zcp:(Tryz.prog.info? 244).map (fun i=>(i.zero,i.size,i.bytes))=some (some (.slice none 0 0),1,24):=by kernel_rfl
theorem Tryz.underlying251:Tryz.prog.underlying 251=some (.slice 244):=by kernel_rfl
theorem Tryz.underlyingInts:Tryz.prog.underlying 76=some (.slice 3):=by kernel_rfl
theorem zel (gt m n c1 c2:Nat) (A1 A2:Option Addr) (w:World) (t1:w.cell? ⟨gt,1,none⟩=some (.slice A1 m c1)) (t2:w.cell? ⟨gt,2,none⟩=some (.slice A2 n c2)) (hm:m<=100000) (hn:n<=100000):
 Calls Tryz.prog 200 #[.pointer (some ⟨gt,0,none⟩)] w (zca w (.int .i64 ((2*n+m:Nat):Int))):=by
 have h1:IntKind.i64.wrap (2*(n:Int))=2*(n:Int):=by rw [IntKind.wrap_i64];omega
 have h2:IntKind.i64.wrap (2*(n:Int)+(m:Int))=2*(n:Int)+(m:Int):=by rw [IntKind.wrap_i64];omega
 go_enter Tryz.func200,Tryz.ntmps200
 go_upto_region 1 with fail
 go_region
 go_wp2_with fail
 go_ret
 exact ⟨by push_cast;rfl,(zz w).out⟩
def BegR (w0:World) (b gt:Nat) (rv nv:Value) (rows:List xe) (names:List (List UInt8)) (iv sv:Value) (wr:World):Prop:=
 ∃ (i N:Nat) (g:Nat->Nat) (mv bv sv' :Value),i<=rows.length/\iv= .int .i64 i/\sv=sv' /\Hid (X4 w0 b rows.length gt N rv nv rows names g i i i 0 mv bv (.slice none 0 0) sv' (yV b rv nv mv bv (.slice none 0 0)) wr)
def BegI (w0:World) (b gt N gl gs:Nat) (rv nv tv:Value) (rows:List xe) (names:List (List UInt8)) (g:Nat->Nat) (i:Nat) (r:xe) (mv bv sv iv:Value) (wr:World):Prop:=
 ∃ (t:Nat),t<=r.terms.length/\iv= .int .i64 t/\Hid (X4 w0 b rows.length gt N rv nv rows names g i i (i+1) 0 mv bv (.slice none 0 0) sv (yV b rv nv mv bv (.slice none 0 0)) wr)/\Hid (zp wr w0.heap.size tv r.terms)/\
  Hid (xb wr gl (2*names.length+2) (2*names.length+2) (zog names (vq (qOf r.bound) (yY r)) (yY r) r.terms t))/\Hid (vY wr gs (yY r))
def BegO (w0:World) (b gt:Nat) (rv nv:Value) (rows:List xe) (names:List (List UInt8)) (g:Nat->Nat) (mv bv sv iv:Value) (wr:World):Prop:=
 ∃ (k N:Nat) (ov:Value),k<=2*names.length/\iv= .int .i64 k/\Hid (X4 w0 b rows.length gt N rv nv rows names g (rows.length+1) rows.length rows.length k mv bv ov sv (yV b rv nv mv bv ov) wr)
theorem Yx {w:World} {t:TypeId} {v:Value}:∀ (j:Nat) (u:Value),[v][j]?=some u->(w.alloc (.cells #[v] t)).cell? ((⟨w.heap.size,0,none⟩:Addr).add j)=some u:=by
 intro j u hu
 have hnew:=Blk.new w t #[v]
 match j with
 | 0=>
   simp at hu;subst hu;have:=hnew.cell 0
   simp [Addr.add]
 | j+1=>simp at hu
theorem xY {v:Value} {p:Value->Prop} (h:p v):∀ u∈[v],p u:=by intro u hu;rw [List.mem_singleton] at hu;subst hu;exact h
structure zor (b:Nat) (rA:Option Addr) (rc:Nat) (nA:Option Addr) (nc:Nat) (rows:List xe) (names:List (List UInt8)) (w:World) (F:zN) (gs cs:Nat) (w' :World):Prop where
 bk:F.bk=some b
 rA:F.rA=rA
 rc:F.rc=rc
 nA:F.nA=nA
 nn:F.nn=names.length
 nc:F.nc=nc
 tab:zW w.heap.size rows.length (2*names.length+2) F w' (zkl rows names)
 scl:Xj w' gs rows.length (zh1 rows)
 book:zH w' b
 chg:Chg (· =b) w w'
 sne:∀ i,i<=rows.length->F.g i≠gs
 sty:∃ cs,w'.heap[gs]?=some (.cells cs 109 (0,0))
theorem zed (b n c nn nc:Nat) (rA nA:Option Addr) (rows:List xe) (names:List (List UInt8)) (w:World) (hB:zH w b) (hr:xj w (.slice rA n c) rows) (hn:zP w w.heap.size (.slice nA nn nc) names)
 (hok:∀ r∈rows,zoy names r) (hm0:0<rows.length) (hmm:rows.length<=10000) (hnn:names.length<=400):
 Calls Tryz.prog 195 #[.map (some b),.slice rA n c,.slice nA nn nc] w (fun e w' =>∃ F gs cs,e= .returned (.tuple #[.pointer (some ⟨F.gt,0,none⟩),.slice (some ⟨gs,0,none⟩) rows.length cs])/\zor b rA c nA nc rows names w F gs cs w'):=by
 obtain rfl:=hr.len
 obtain rfl:=hn.len
 have hx:=zf w (.cells (yV b (.slice rA rows.length c) (.slice nA names.length nc) (.slice none 0 0) (.slice none 0 0) (.slice none 0 0)) 253)
 have HS:Hid (X4 w b rows.length w.heap.size (w.heap.size+1) (.slice rA rows.length c) (.slice nA names.length nc) rows names (fun _=>0) 0 0 0 0 (.slice none 0 0) (.slice none 0 0) (.slice none 0 0) (.slice none 0 0)
  (yV b (.slice rA rows.length c) (.slice nA names.length nc) (.slice none 0 0) (.slice none 0 0) (.slice none 0 0)) (w.alloc (.cells (yV b (.slice rA rows.length c) (.slice nA names.length nc) (.slice none 0 0) (.slice none 0 0) (.slice none 0 0)) 253))):=by
  refine ⟨Blk.new _ _ _,?_,xW.nil _ _ _ _ _,vK _ _ _ _,vK _ _ _ _,vu.nil _ _ _,hB.below hx,zV.below hr hx,hn.below hx,Chg.of_below hx,(fun j hj=>by omega),(fun c h=>by cases h),Nat.le_refl _,(by simp),hB.lt,Nat.lt_succ_self _,(fun j hj=>by omega),?_⟩
  rotate_left
  . intro c h
    rcases h with h | h | h | h<;>cases h
  refine Zg ?_
  unfold yV
  intro u hu
  simp at hu
  rcases hu with rfl | rfl | rfl | rfl | rfl | rfl | rfl | rfl
  all_goals first | exact zlm _ | exact yf _ _ _ | exact xh _ | exact vQ _
 have HOK:=ze hok
 clear hB hr hn hx hok
 unfold yV at HS
 go_enter Tryz.func195,Tryz.ntmps195
 go_upto_region 4 with fail
 have HLO:=ze (Nat.le_refl w.heap.size)
 generalize w.alloc (.cells #[.map (some b),.slice rA rows.length c,.slice nA names.length nc,.slice none 0 0,.int .i64 1,.slice none 0 0,.bool false,.slice none 0 0,.slice none 0 0] 253)=W at HS |-
 obtain ⟨gt,hgt⟩:∃ gt,gt=w.heap.size:=⟨_,rfl⟩
 obtain ⟨N0,hN0⟩:∃ N,N=w.heap.size+1:=⟨_,rfl⟩
 rw [<- hN0, <- hgt] at HS
 rw [<- hgt]
 clear hgt hN0 HLO
 have hrd:=fun w' (h:zH w' b) (s:List UInt8) (hs:yh s)=>ZP b ⟨s.toArray⟩ w' h (by rw [<- zk,xR];exact hs)
 simp only [xR] at hrd
 have HRD:=ze hrd
 have HNEG:=ze (fun w v z h=>yH v z w h)
 clear hrd
 have eL:IntKind.i64.wrap (2*(names.length:Int)+2)=2*(names.length:Int)+2:=by rw [IntKind.wrap_i64];omega
 have eLL:((2*names.length+2:Nat):Int)=2*(names.length:Int)+2:=by omega
 have HLL:=ze eLL
 clear eLL
 have eL1:IntKind.i64.wrap (2*(names.length:Int))=2*(names.length:Int):=by rw [IntKind.wrap_i64];omega
 obtain ⟨K3,hK3⟩:∃ K,K=2*names.length+1:=⟨_,rfl⟩
 have eL2:IntKind.i64.wrap (2*(names.length:Int)+1)=(K3:Int):=by rw [IntKind.wrap_i64];omega
 have eL3:(K3:Int)<2*(names.length:Int)+2:=by omega
 have eL4:(0:Int)<=(K3:Int):=by omega
 have HK3:=ze hK3
 have HK3L:Hid (K3<2*names.length+2):=by show _<_;omega
 clear hK3
 go_wp2_with fail
 go_loopw [35,10] (BegR w b gt (.slice rA rows.length c) (.slice nA names.length nc) rows names) (fun iv _ _=>rows.length - (intOf iv).toNat)
 case atStart=>exact ⟨0,_,_,_,_,_,Nat.zero_le _,rfl,rfl,HS⟩
 case round=>
  clear HS
  obtain ⟨i,N,g,mv,bv,sv,hi,rfl,rfl,HS⟩:=hrel
  by_cases hil:i<rows.length
  . have hii:(i:Int)<(rows.length:Int):=by omega
    obtain ⟨ad,AT,nt,ct,eA,hbb,p0,p1,ht,hsb⟩:=HS.out.rws.at_ hil;subst eA;obtain ⟨r,hr⟩:∃ r,r=rows[i]:=⟨_,rfl⟩;have hgd:rows.getD i default=r:=by rw [hr];simp [List.getD,List.getElem?_eq_getElem hil]
    have HRO:=ze (HOK.out r (by rw [hr];exact List.getElem_mem hil));have HGD:=ze hgd;rw [<- hr] at p1 ht hsb;clear hr hgd;obtain rfl:=ht.len;have htb:=ht.bound;have hx:=zf wr (.cells #[.slice AT r.terms.length ct,str r.bound] 57);have HK:=ze (Blk.new wr 57 #[.slice AT r.terms.length ct,str r.bound]);have HT:=ze (zp.below ht hx);have HSB:=ze hsb;replace HS:=ze (HS.out.below hx);clear hx ht hsb
    go_upto_region 7 with fail
    clear p0 p1 hbb;generalize wr.alloc (.cells #[.slice AT r.terms.length ct,str r.bound] 57)=W1 at HK HT HS |-;generalize wr.heap.size=gr at HK |-;have r0:=HK.out.cell 0;have r1:=HK.out.cell 1;simp at r0 r1;have hsc:=zat b AT r.terms.length ct r.bound r.terms W1 HS.out.book (HT.out.more HS.out.chg.size) HSB.out HRO.out.ok;have HSC:=ze hsc;clear hsc;go_wp2_with fail;refine HSC.out.mono ?_;rintro e w2 ⟨v,rfl,hv,hB1,hc1⟩;obtain ⟨x2,A2,k2,c2,s2,rfl,_,_,_⟩:=hv.form;have hKk:=HS.out.book.keepBlk hc1 HK.out;replace HT:=ze (HS.out.book.keepT hc1 HT.out);replace HS:=ze (HS.out.read hc1 hB1);have hx:=zf w2 (.cells #[.int .i64 x2,.slice A2 k2 c2,.bool s2] 109);replace HK:=ze (hKk.below hx hKk.lt);replace HT:=ze (zp.below HT.out hx);have HGS:Hid (N<=w2.heap.size):=HS.out.top;replace HS:=ze (HS.out.below hx);have HKS:=ze (Blk.new w2 109 #[.int .i64 x2,.slice A2 k2 c2,.bool s2]);have HV:=ze (hv.below hx);clear hx hv hB1 hc1 hKk HSC r0 r1
    go_upto_region 8 with fail
    generalize w2.alloc (.cells #[.int .i64 x2,.slice A2 k2 c2,.bool s2] 109)=W2 at HK HT HS HKS HV |-;generalize w2.heap.size=gs at HKS HGS |-;have q0:=HKS.out.cell 0;have q1:=HKS.out.cell 1;have q2:=HKS.out.cell 2;simp at q0 q1 q2;have hx:=zf W2 (.cells #[.int .i64 x2,.slice A2 k2 c2,.bool s2] 109);have hnew:=Blk.new W2 109 #[.int .i64 x2,.slice A2 k2 c2,.bool s2]
    have hcell:∀ (j:Nat) (u:Value),[Value.int .i64 x2,.slice A2 k2 c2,.bool s2][j]?=some u->(W2.alloc (.cells #[.int .i64 x2,.slice A2 k2 c2,.bool s2] 109)).cell? ((⟨W2.heap.size,0,none⟩:Addr).add j)=some u:=by
     intro j u hu
     have e:((⟨W2.heap.size,0,none⟩:Addr).add j)=⟨W2.heap.size,j,none⟩:=by
      unfold Addr.add
      by_cases h:j=0
      . subst h;rfl
      . simp [h]
     rw [e,hnew.cell j, <- hu]
     simp
    have hone:∀ u∈[Value.int .i64 x2,.slice A2 k2 c2,.bool s2],u.oneCell' =true:=by intro u hu;simp at hu;rcases hu with rfl | rfl | rfl<;>rfl
    have hnoi:∀ u∈[Value.int .i64 x2,.slice A2 k2 c2,.bool s2],Zw u:=by
     intro u hu;simp at hu;rcases hu with rfl | rfl | rfl
     . exact xh _
     . exact yf _ _ _
     . exact vQ _
    have hzn:∀ u∈(Value.agg #[.int .i64 0,.slice none 0 0,.bool false]).cells,Zw u:=by
     intro u hu;simp [Value.cells] at hu;rcases hu with rfl | rfl | rfl
     . exact xh _
     . exact yf _ _ _
     . exact vQ _
    obtain ⟨i0,hi0,hz0,hz1,hz2⟩:=info_parts zgj;replace HK:=kb_ HK hx;replace HT:=ze (zp.below HT.out hx);replace HS:=ze (HS.out.below hx);replace HKS:=kb_ HKS hx;replace HV:=ze (HV.out.below hx);obtain ⟨xs,ho1,ho3⟩:=HS.out.scl;have HO1:=ze ho1;have HO3:=ze ho3;have HWS:Hid (w.heap.size<=(W2.alloc (.cells #[.int .i64 x2,.slice A2 k2 c2,.bool s2] 109)).heap.size):=HS.out.chg.size;clear hx hnew ho1 ho3;go_wp2_with (at_builtin;go_must (refine yn (P:=Tryz.prog) rfl (.tmp 43) (.tmp 45) _ rfl w.heap.size 109 i0 _ 3 40 Tryz.underlying244 hi0 hz0 hz1 hz2 rfl (by omega) _ i xs rfl HO1.out ⟨W2.heap.size,0,none⟩ 1 1 [.int .i64 x2,.slice A2 k2 c2,.bool s2] rfl rfl (by omega) hcell hone hnoi hzn ?o4 ?o5 ?o6 ?_))
    case o4=>unfold maxLen;omega
    case o5=>omega
    case o6=>exact HWS.out
    intro sv3 w3 hown3 hgr3 hat3;clear hcell hone hnoi hzn q0 q1 q2;have hP:vu w3 w.heap.size sv3 (i+1) (zh1 rows):=vu.push HO1.out HO3.out hown3 hgr3 HV.out (fun k hk=>rfl) (by show yY (rows.getD i default)=_;rw [HGD.out];rfl);have hsD:=fun x e=>HS.out.scl.noDig (c:=x) e
    have hcg:=xZ hgr3;have hlt3:=HWS.out;have hg3:=hcg.size
    have hKb:Blk w3 gr 57 #[.slice AT r.terms.length ct,str r.bound]:=hcg.blk HK.out (fun e=>by
     obtain ⟨cs,k1⟩:=HS.out.scl.heap e
     exact xo HK.out k1 (by decide) rfl)
    have hNb:vY w3 gs (yY r):=⟨_,_,_,_,_,hcg.blk HKS.out (fun e=>by have:=HS.out.oN _ (.inr (.inr (.inr e)));have:=HGS.out;omega),hcg.num HV.out hsD⟩;have hTb:zp w3 w.heap.size (.slice AT r.terms.length ct) r.terms:=HT.out.chg hcg (fun x hx e=>by have:=(HS.out.scl.lt x e).1;omega);replace HS:=ze (HS.out.scales hP hgr3 (by rw [World.size_alloc];exact hat3));replace HK:=ze hKb;replace HT:=ze hTb;have HNB:=ze hNb;have HGSL:=ze hNb.lt;obtain ⟨N1,hN1⟩:∃ N1,N1=w3.heap.size:=⟨_,rfl⟩;rw [<- hN1] at HS HGSL;have HN1:Hid (N1<=w3.heap.size):=Nat.le_of_eq hN1;clear hN1 hsD hcg hlt3 hg3 hKb hNb hTb hP hown3 hgr3 hat3 HKS HV HO1 HO3 HWS;have r1:=HK.out.cell 1;simp at r1;go_wp2_with fail;refine (HRD.out _ HS.out.book _ HSB.out).mono ?_;rintro e w4 ⟨v,ok,rfl,⟨x1,A1,k1,c1,s1,y1,B1,k1x,c1x,t1,rfl⟩,hokk,hq,hB1,hc1⟩;have hq1:=hq _ (YH HRO.out.ok.bsome);have hKk:=HS.out.book.keepBlk hc1 HK.out;have hNk:=HS.out.book.keepBox hc1 HNB.out;replace HT:=ze (HS.out.book.keepT hc1 HT.out);replace HS:=ze (HS.out.read hc1 hB1);have HN4:Hid (N1<=w4.heap.size):=Nat.le_trans HN1.out hc1.size
    have hx:=zf w4 (.cells #[.int .i64 x1,.slice A1 k1 c1,.bool s1,.int .i64 y1,.slice B1 k1x c1x,.bool t1] 111);replace HK:=ze (hKk.below hx hKk.lt);replace HNB:=ze (hNk.below hx);replace HT:=ze (zp.below HT.out hx);replace HS:=ze (HS.out.below hx);have HKQ:=ze (Blk.new w4 111 #[.int .i64 x1,.slice A1 k1 c1,.bool s1,.int .i64 y1,.slice B1 k1x c1x,.bool t1]);have HQ:=ze (hq1.below hx);have HN5:Hid (N1<=(w4.alloc (.cells #[.int .i64 x1,.slice A1 k1 c1,.bool s1,.int .i64 y1,.slice B1 k1x c1x,.bool t1] 111)).heap.size):=Nat.le_trans HN4.out hx.size;clear hx hokk hq hB1 hc1 hq1 hKk hNk r1 HN1 HN4
    go_upto_region 10 with fail
    generalize w4.alloc (.cells #[.int .i64 x1,.slice A1 k1 c1,.bool s1,.int .i64 y1,.slice B1 k1x c1x,.bool t1] 111)=W5 at HK HNB HT HS HKQ HQ HN5 |-;generalize w4.heap.size=gq at HKQ |-;have hmk:=fun w=>V5 .i64 (2*names.length+2) (by omega) w
    rw [HLL.out] at hmk
    go_upto_region 11 with fail
    have hx:=zf W5 (.cells (yq (2*names.length+2)) 109);have HP:=ze (zb9 W5 (2*names.length+2));replace HK:=kb_ HK hx;have HLT2:=ze (show gs<W5.heap.size from HNB.out.lt);replace HNB:=ze (HNB.out.below hx);replace HT:=ze (zp.below HT.out hx);replace HS:=ze (HS.out.below hx);replace HKQ:=kb_ HKQ hx;replace HQ:=ze (HQ.out.below hx);clear hx hmk;generalize W5.alloc (.cells (yq (2*names.length+2)) 109)=W6 at HK HNB HT HS HKQ HQ HP |-;generalize W5.heap.size=gl at HP HN5 HLT2 |-;have q0:=HKQ.out.cell 0;have q1:=HKQ.out.cell 1;have q2:=HKQ.out.cell 2;have q3:=HKQ.out.cell 3;have q4:=HKQ.out.cell 4;have q5:=HKQ.out.cell 5;simp at q0 q1 q2 q3 q4 q5;obtain ⟨sx,sA,sn,sc,sg,hks,hsn⟩:=HNB.out;have z0:=hks.cell 0;have z1:=hks.cell 1;have z2:=hks.cell 2;simp at z0 z1 z2;have htm:=V1 _ _ _ _ W6 HQ.out hsn HRO.out.ok.blen (by have:=(HRO.out.ok.fit r.terms.length (Nat.le_refl _)).1;exact Nat.le_trans this (by omega));have HTM:=ze htm;clear hks hsn htm;go_wp2_with fail;refine HTM.out.mono ?_;rintro e w7 ⟨v,rfl,hv,hb1⟩;clear q0 q1 q2 q3 q4 q5 z0 z1 z2 HTM
    obtain ⟨x3,A3,k3,c3,s3,rfl,_,_,_⟩:=hv.form;replace HK:=kb_ HK hb1;replace HNB:=ze (HNB.out.below hb1);replace HT:=ze (zp.below HT.out hb1);replace HS:=ze (HS.out.below hb1);replace HP:=ze (HP.out.below hb1);obtain ⟨u0,u1,u2,s0,s1,s2⟩:=HP.out.slots (k:=0) (by omega);have f0:=HP.out.frozen (0*3);have f1:=HP.out.frozen (0*3+1);have f2:=HP.out.frozen (0*3+2);simp only [Nat.zero_mul,Nat.zero_add] at s0 s1 s2 f0 f1 f2;have hLp:0<2*names.length+2:=by omega
    have hcn:=ve (w:=w7) (g:=gl) (k:=0) (x:=x3) (A:=A3) (n:=k3) (c:=c3) (ng:=s3)
    have HP2:Hid (xb (World.numAt w7 gl 0 x3 A3 k3 c3 s3) gl (2*names.length+2) (2*names.length+2) (zog names (vq (qOf r.bound) (yY r)) (yY r) r.terms 0)):=HP.out.set hLp hv (fun j hj=>by
     by_cases e:j=0
     . exact .inl ⟨e,by subst e;rfl⟩
     . exact .inr ⟨e,hj,by show (if j=0 then _ else _)=_;rw [if_neg e]⟩)
    have hglD:∀ x,x=gl->N1<=x/\ye w7 x:=fun x e=>by subst e;exact ⟨HN5.out,HP.out.noDig⟩
    have HS2:=ze (HS.out.far hcn hglD);have hlog:=HS.out.lo;have hgtN:=HS.out.gtN;have HT2:Hid (zp (World.numAt w7 gl 0 x3 A3 k3 c3 s3) w.heap.size (.slice AT r.terms.length ct) r.terms):=HT.out.chg hcn (fun x hx e=>by have:=HN5.out;omega)
    have HK2:=ze (hcn.blk HK.out (fun e=>by
     obtain ⟨cs,k1⟩:=HP.out.heap;rw [<- e] at k1
     exact xo HK.out k1 (by decide) rfl))
    have HNB2:=ze (HNB.out.chg hcn (by have:=HLT2.out;omega) (fun x e=>(hglD x e).2));clear HS HT HK HP HNB hcn hglD hlog hgtN hb1 hv HKQ HQ;simp only [World.numAt,Nat.zero_mul,Nat.zero_add] at HP2 HS2 HT2 HK2 HNB2
    go_upto_region 12 with fail
    clear f0 f1 f2 s0 s1 s2 hLp;generalize ((w7.setCell ⟨gl,0,none⟩ (.int .i64 x3)).setCell ⟨gl,1,none⟩ (.slice A3 k3 c3)).setCell ⟨gl,2,none⟩ (.bool s3)=W8 at HP2 HS2 HT2 HK2 HNB2 |-;have r0:=HK2.out.cell 0;simp at r0;go_wp2_with fail;clear r0 HK2
    go_loopw [66] (BegI w b gt N1 gl gs (.slice (some ad) rows.length c) (.slice nA names.length nc) (.slice AT r.terms.length ct) rows names g i r mv bv sv3) (fun iv _=>r.terms.length - (intOf iv).toNat)
    case atStart=>exact ⟨0,Nat.zero_le _,rfl,HS2,HT2,HP2,HNB2⟩
    case round=>
     clear HP2 HS2 HT2 HNB2;obtain ⟨t,ht,rfl,HS,HT,HP,HNB⟩:=hrel
     by_cases htl:t<r.terms.length
     . have hti:(t:Int)<(r.terms.length:Int):=by omega
       obtain ⟨ad2,eA,hbb,p0,p1,hs1,hs2⟩:=HT.out.at_ htl;subst eA;have hgd:r.terms.getD t default=r.terms[t]:=by simp [List.getD,List.getElem?_eq_getElem htl]
       have HNO:=ze (HRO.out.nm _ (List.getElem_mem htl));have HGOOD:=ze (HRO.out.ok.good _ (List.getElem_mem htl));have HGT:=ze hgd;have HS2:=ze hs2;have hx:=zf wr (.cells #[str r.terms[t].name,str r.terms[t].coef] 68);have HK:=ze (Blk.new wr 68 #[str r.terms[t].name,str r.terms[t].coef]);replace HS:=ze (HS.out.below hx);replace HT:=ze (zp.below HT.out hx);replace HP:=ze (HP.out.below hx);replace HNB:=ze (HNB.out.below hx);clear hx hs1 hs2 hgd
       go_upto_region 15 with fail
       clear p0 p1 hbb;generalize wr.alloc (.cells #[str r.terms[t].name,str r.terms[t].coef] 68)=W1 at HK HS HT HP HNB |-;generalize wr.heap.size=gtm at HK |-;have p0:=HK.out.cell 0;have p1:=HK.out.cell 1;simp at p0 p1;have hbs:=Xw nA names.length nc names r.terms[t].name w.heap.size _ W1 HS.out.nms HNO.out.lt HNO.out.at_ HNO.out.lo HNO.out.hi (by omega);have hpl:=HNO.out.lt;obtain ⟨p,hp⟩:∃ p,names.idxOf r.terms[t].name=p:=⟨_,rfl⟩;have HPOS:Hid (XX names r.terms t=p):=by show XX _ _ _=_;unfold XX;rw [HGT.out];exact hp
       rw [hp] at hbs hpl;have HBS:=ze hbs;clear hbs hp;go_wp2_with fail;refine HBS.out.mono ?_;rintro e w9 ⟨rfl,rfl⟩;clear HBS;go_wp2_with fail;refine (HRD.out _ HS.out.book _ HS2.out).mono ?_;rintro e w4 ⟨v,ok2,rfl,⟨x1,A1,k1,c1,s1,y1,B1,k1x,c1x,t1,rfl⟩,hokk,hq,hB1,hc1⟩;have hq1:=hq _ (YH HGOOD.out.1);have hNk:=HS.out.book.keepBox hc1 HNB.out;have hbN:=HS.out.hb;have hloN:=HS.out.lo;have hgtN:=HS.out.gtN;have hPk:=HP.out.chg hc1 (by have:=HN5.out;omega) (fun x e=>by subst e;exact HS.out.book.noDig);replace HT:=ze (HS.out.book.keepT hc1 HT.out);replace HS:=ze (HS.out.read hc1 hB1);have hx:=zf w4 (.cells #[.int .i64 x1,.slice A1 k1 c1,.bool s1,.int .i64 y1,.slice B1 k1x c1x,.bool t1] 111);replace HP:=ze (hPk.below hx);replace HNB:=ze (hNk.below hx);replace HT:=ze (zp.below HT.out hx);replace HS:=ze (HS.out.below hx);have HKQ:=ze (Blk.new w4 111 #[.int .i64 x1,.slice A1 k1 c1,.bool s1,.int .i64 y1,.slice B1 k1x c1x,.bool t1]);have HQ:=ze (hq1.below hx);clear hx hokk hq hB1 hc1 hq1 hPk hNk p0 p1 HK hbN hloN hgtN
       go_upto_region 17 with fail
       generalize w4.alloc (.cells #[.int .i64 x1,.slice A1 k1 c1,.bool s1,.int .i64 y1,.slice B1 k1x c1x,.bool t1] 111)=W5 at HNB HT HS HKQ HQ HP |-;generalize w4.heap.size=gq at HKQ |-;have q0:=HKQ.out.cell 0;have q1:=HKQ.out.cell 1;have q2:=HKQ.out.cell 2;have q3:=HKQ.out.cell 3;have q4:=HKQ.out.cell 4;have q5:=HKQ.out.cell 5;simp at q0 q1 q2 q3 q4 q5;obtain ⟨sx,sA,sn,sc,sg,hks,hsn⟩:=HNB.out;have z0:=hks.cell 0;have z1:=hks.cell 1;have z2:=hks.cell 2;simp at z0 z1 z2;have htm:=V1 _ _ _ _ W5 HQ.out hsn HGOOD.out.2 (by have:=(HRO.out.ok.fit r.terms.length (Nat.le_refl _)).1;exact Nat.le_trans this (by omega));have HTM:=ze htm;clear hks hsn htm;go_wp2_with fail;refine HTM.out.mono ?_;rintro e w7 ⟨v,rfl,hv,hb1⟩;clear q0 q1 q2 q3 q4 q5 z0 z1 z2 HTM HKQ HQ;obtain ⟨x4,A4,k4,c4,s4,rfl,_,_,_⟩:=hv.form;have HCO:Hid (vq (qOf r.terms[t].coef) (yY r)=Yw (yY r) r.terms t):=by show _=_;unfold Yw;rw [HGT.out]
       rw [HCO.out] at hv;have hx:=ext hb1 (zf w7 (.cells #[.int .i64 x4,.slice A4 k4 c4,.bool s4] 109));have hx7:=zf w7 (.cells #[.int .i64 x4,.slice A4 k4 c4,.bool s4] 109);have HKV:=ze (Blk.new w7 109 #[.int .i64 x4,.slice A4 k4 c4,.bool s4]);have HGV:Hid (W5.heap.size<=w7.heap.size):=hb1.size;have HGL5:=ze HP.out.lt;have HGS5:=ze HNB.out.lt;replace HP:=ze (HP.out.below hx);replace HNB:=ze (HNB.out.below hx);replace HT:=ze (zp.below HT.out hx);replace HS:=ze (HS.out.below hx);have HV:=ze (hv.below hx7);clear hx hx7 hv hb1
       go_upto_region 18 with fail
       generalize w7.alloc (.cells #[.int .i64 x4,.slice A4 k4 c4,.bool s4] 109)=W7 at HNB HT HS HP HKV HV |-;generalize w7.heap.size=gv at HKV HGV |-;have q0:=HKV.out.cell 0;have q1:=HKV.out.cell 1;have q2:=HKV.out.cell 2;simp at q0 q1 q2;have vL:=HKV.out.lt;obtain ⟨K1,hK1⟩:∃ K,K=1+2*p:=⟨_,rfl⟩;obtain ⟨K2,hK2⟩:∃ K,K=2+2*p:=⟨_,rfl⟩;have e1:IntKind.i64.wrap (2*(p:Int))=2*(p:Int):=by rw [IntKind.wrap_i64];omega
       have e2:IntKind.i64.wrap (1+2*(p:Int))=(K1:Int):=by rw [IntKind.wrap_i64];omega
       have e3:IntKind.i64.wrap (2+2*(p:Int))=(K2:Int):=by rw [IntKind.wrap_i64];omega
       have e4:(K1:Int)<2*(names.length:Int)+2:=by omega
       have e5:(K2:Int)<2*(names.length:Int)+2:=by omega
       have e6:(0:Int)<=(K1:Int):=by omega
       have e7:(0:Int)<=(K2:Int):=by omega
       have HK1:=ze hK1;have HK2:=ze hK2;have HKL:Hid (K1<2*names.length+2/\K2<2*names.length+2):=⟨by omega,by omega⟩;clear hK1 hK2;have hgv:¬ gv=gl:=by have:=HGV.out;have:=HGL5.out;omega
       refine zq (S:=fun w' =>Hid (Chg (fun x=>x=gl) W7 w')/\w'.cell? ⟨gv,0,none⟩=some (.int .i64 x4)/\w'.cell? ⟨gv,1,none⟩=some (.slice A4 k4 c4)/\w'.cell? ⟨gv,2,none⟩=some (.bool s4)) 9 4 13 rfl (by kernel_rfl) (by kernel_rfl) (by kernel_rfl) rfl (zl (Zf W7) (fun hB=>⟨y8 hB q0 hgv,y8 hB q1 hgv,y8 hB q2 hgv⟩)) ?_ (fun hHeld=>?_)
       . intro _ _ _ _ _ h9;exact h9
       simp only [List.take_succ_cons,List.take_zero]
       iterate 9 (refine zD (v:=?_) ?_ ?_;rotate_left;(focus (as_aux_lemma=>(intro w9 hSw;(try dsimp only at hSw);go_split_ands;go_simp;try with_reducible rfl)));try simp only [Act.put,List.setIfInBounds_toArray,List.set_cons_zero,List.set_cons_succ])
       refine zI ?_;refine HH.take 10 (oi:=_) (v:=?_) rfl (by kernel_rfl) (by kernel_rfl) (by kernel_rfl) (fun _ _ _ h=>h) (Or.inl ⟨by rfl,?_⟩) ‹_› ?_;rotate_left
       . (intro w9 hSw;(try dsimp only at hSw);go_split_ands;go_simp;try with_reducible rfl)
       try simp only [Act.put,List.getElem_toArray,List.getElem_cons_succ,List.getElem_cons_zero,List.setIfInBounds_toArray,List.set_cons_zero,List.set_cons_succ]
       refine HH.ready (rs:=[9]) (by kernel_rfl) (by simp) (by kernel_rfl) ?_;refine zu.cons (o:=_) rfl (fun K hK=>?_) zu.nil
       go_simp
       go_at_call 188;refine (yH _ _ _ (HV.out.below (zz W7).out)).mono ?_;rintro e w8 ⟨v1,rfl,hv,hb2⟩;have hb7:Below W7.heap.size W7 w8:=ext (zz W7).out hb2;have HX1:=ze hv;replace HP:=ze (HP.out.below hb7);replace HNB:=ze (HNB.out.below hb7);replace HT:=ze (zp.below HT.out hb7);replace HS:=ze (HS.out.below hb7);replace HV:=ze (HV.out.below hb7);clear hv hb7;have hH0:=hHeld;clear hHeld;refine hK.out _ _ (zl (ZJ hb2 hH0.1) (fun hB=>⟨y8 hB q0 hgv,y8 hB q1 hgv,y8 hB q2 hgv⟩)) (fun hHeld=>?_);clear hH0 hK K
       try simp only [Act.put,List.setIfInBounds_toArray,List.set_cons_zero,List.set_cons_succ]
       clear hb2;obtain ⟨x5,A5,k5,c5,s5,rfl,_,_,_⟩:=HX1.out.form;obtain ⟨u0,u1,u2,j0,j1,j2⟩:=HP.out.slots HKL.out.1;have f0:=HP.out.frozen (K1*3);have f1:=HP.out.frozen (K1*3+1);have f2:=HP.out.frozen (K1*3+2);have hcn1:=ve (w:=w8) (g:=gl) (k:=K1) (x:=x5) (A:=A5) (n:=k5) (c:=c5) (ng:=s5);have hglD:∀ x,x=gl->N1<=x/\ye w8 x:=fun x e=>by subst e;exact ⟨HN5.out,HP.out.noDig⟩
       have HP1:Hid (xb (World.numAt w8 gl K1 x5 A5 k5 c5 s5) gl (2*names.length+2) (2*names.length+2) (fun j=>if j=K1 then -(Yw (yY r) r.terms t) else zog names (vq (qOf r.bound) (yY r)) (yY r) r.terms t j)):=HP.out.set HKL.out.1 HX1.out (fun j hj=>by
        by_cases e:j=K1
        . exact .inl ⟨e,by rw [if_pos e]⟩
        . exact .inr ⟨e,hj,by rw [if_neg e]⟩)
       have HV1:=ze (hcn1.num HV.out (fun x e=>(hglD x e).2));have HS1:=ze (HS.out.far hcn1 hglD);have hne1:¬ gs=gl:=by have:=HLT2.out;omega
       have HNB1:=ze (HNB.out.chg hcn1 hne1 (fun x e=>(hglD x e).2));have hbw:=HS.out.chg.size;have hloN:=HS.out.lo;have hgtN:=HS.out.gtN;have HT1:=ze (HT.out.chg hcn1 (fun x hx e=>by have:=HN5.out;omega));have hcn2:=ve (w:=World.numAt w8 gl K1 x5 A5 k5 c5 s5) (g:=gl) (k:=K2) (x:=x4) (A:=A4) (n:=k4) (c:=c4) (ng:=s4);have hglE:∀ x,x=gl->N1<=x/\ye (World.numAt w8 gl K1 x5 A5 k5 c5 s5) x:=fun x e=>by subst e;exact ⟨HN5.out,HP1.out.noDig⟩
       have HP2:Hid (xb (World.numAt (World.numAt w8 gl K1 x5 A5 k5 c5 s5) gl K2 x4 A4 k4 c4 s4) gl (2*names.length+2) (2*names.length+2) (zog names (vq (qOf r.bound) (yY r)) (yY r) r.terms (t+1))):=HP1.out.set HKL.out.2 HV1.out (fun j hj=>by
        have h1:=HK1.out;have h2:=HK2.out;have h3:=HPOS.out
        show (j=K2/\(if j=1+2*XX names r.terms t then _ else if j=2+2*XX names r.terms t then _ else _)=_)\/(j≠K2/\j<_/\(if j=1+2*XX names r.terms t then _ else if j=2+2*XX names r.terms t then _ else _)=_)
        rw [h3, <- h1, <- h2]
        by_cases e:j=K2
        . exact .inl ⟨e,by rw [if_neg (by omega),if_pos e]⟩
        . refine .inr ⟨e,hj,?_⟩
          by_cases e' :j=K1
          . rw [if_pos e',if_pos e']
          . rw [if_neg e',if_neg e,if_neg e'])
       obtain ⟨u3,u4,u5,j3,j4,j5⟩:=HP1.out.slots HKL.out.2;have f3:=HP1.out.frozen (K2*3);have f4:=HP1.out.frozen (K2*3+1);have f5:=HP1.out.frozen (K2*3+2);have HSX:=ze (HS1.out.far hcn2 hglE);have HNX:=ze (HNB1.out.chg hcn2 hne1 (fun x e=>(hglE x e).2));have HTX:=ze (HT1.out.chg hcn2 (fun x hx e=>by have:=HN5.out;omega));have hk1:Hid (Chg (fun x=>x=gl) w8 (World.numAt w8 gl K1 x5 A5 k5 c5 s5)):=hcn1;clear HS1 HNB1 HT1 HV1 HP1 hcn1 hcn2 hglD hglE HS HP HT HNB HV HX1 hne1 hbw hloN hgtN HKV vL HGV;simp only [World.numAt] at HP2 HSX HNX HTX j3 j4 j5 f3 f4 f5 hk1;refine HH.take 11 (oi:=_) (v:=?_) rfl (by kernel_rfl) (by kernel_rfl) (by kernel_rfl) (fun _ _ _ h=>h) (Or.inl ⟨by rfl,?_⟩) ‹_› ?_;rotate_left
       . (intro w9 hSw;(try dsimp only at hSw);go_split_ands;go_simp;try with_reducible rfl)
       try simp only [Act.put,List.getElem_toArray,List.getElem_cons_succ,List.getElem_cons_zero,List.setIfInBounds_toArray,List.set_cons_zero,List.set_cons_succ]
       refine HH.ready (rs:=[12]) (by kernel_rfl) (by simp) (by kernel_rfl) ?_;refine zu.cons (o:=_) rfl (fun K hK=>?_) zu.nil
       go_simp
       have hH0:=hHeld;clear hHeld;refine hK.out _ _ (zl (Yf hk1.out hH0.1) (fun hB=>⟨y8 hB q0 hgv,y8 hB q1 hgv,y8 hB q2 hgv⟩)) (fun hHeld=>?_);clear hH0 hK K
       try simp only [Act.put,List.setIfInBounds_toArray,List.set_cons_zero,List.set_cons_succ]
       clear hk1;have HBY:=(hHeld.1).out;clear HBY hHeld;refine HH.done (by kernel_rfl) ?_;simp only [List.drop_succ_cons,List.drop_zero];clear q0 q1 q2 hgv;go_wp2_with fail;go_roundw
       case rel=>first | exact ⟨t+1,by omega,by go_num,HSX,HTX,HP2,HNX⟩ | ((repeat apply Exists.intro);exact ⟨⟨t+1,by omega,by go_num,HSX,HTX,HP2,HNX⟩,rfl⟩)
       case measure=>simp [intOf];omega
     . obtain rfl:r.terms.length=t:=by omega
       skip
       obtain ⟨u0,u1,u2,j0,j1,j2⟩:=HP.out.slots HK3L.out;have f0:=HP.out.frozen (K3*3);have f1:=HP.out.frozen (K3*3+1);have f2:=HP.out.frozen (K3*3+2);have hcn:=ve (w:=wr) (g:=gl) (k:=K3) (x:=1) (A:=none) (n:=0) (c:=0) (ng:=false);have hglD:∀ x,x=gl->N1<=x/\ye wr x:=fun x e=>by subst e;exact ⟨HN5.out,HP.out.noDig⟩
       have hone1:zO wr (.agg #[.int .i64 1,.slice none 0 0,.bool false]) 1:=.inl ⟨1,false,rfl,by omega,by omega,rfl⟩
       have HP2:Hid (xb (World.numAt wr gl K3 1 none 0 0 false) gl (2*names.length+2) (2*names.length+2) (zln names r)):=HP.out.set HK3L.out hone1 (fun j hj=>by
        have h1:=HK3.out
        show (j=K3/\(if j=2*names.length+1 then _ else _)=_)\/(j≠K3/\j<_/\(if j=2*names.length+1 then _ else _)=_)
        rw [<- h1]
        by_cases e:j=K3
        . exact .inl ⟨e,if_pos e⟩
        . exact .inr ⟨e,hj,if_neg e⟩)
       have HS2:=ze (HS.out.far hcn hglD);clear HS HP HT HNB hcn hglD hone1;simp only [World.numAt] at HP2 HS2
       go_upto_region 21 with fail
       clear j0 j1 j2 f0 f1 f2;generalize ((wr.setCell ⟨gl,K3*3,none⟩ (.int .i64 1)).setCell ⟨gl,K3*3+1,none⟩ (.slice none 0 0)).setCell ⟨gl,K3*3+2,none⟩ (.bool false)=W2 at HP2 HS2 |-;have c3:W2.cell? ⟨gt,3,none⟩=some mv:=by rw [HS2.out.blk.cell];rfl
       have hx:=zf W2 (.cells #[.slice (some ⟨gl,0,none⟩) (2*names.length+2) (2*names.length+2)] 244);have HS3:=ze (HS2.out.below hx);have HP3:=ze (HP2.out.below hx);have HWS:Hid (w.heap.size<=(W2.alloc (.cells #[.slice (some ⟨gl,0,none⟩) (2*names.length+2) (2*names.length+2)] 244)).heap.size):=HS3.out.chg.size;have hcell:=Yx (w:=W2) (t:=244) (v:=.slice (some ⟨gl,0,none⟩) (2*names.length+2) (2*names.length+2));have hone:=xY (v:=.slice (some ⟨gl,0,none⟩) (2*names.length+2) (2*names.length+2)) (p:=fun u=>u.oneCell' =true) rfl;have hnoi:=xY (v:=.slice (some ⟨gl,0,none⟩) (2*names.length+2) (2*names.length+2)) (p:=Zw) (yf _ _ _);have hzn:∀ u∈(Value.slice none 0 0).cells,Zw u:=by intro u hu;simp [Value.cells] at hu;subst hu;exact yf _ _ _
       obtain ⟨i0,hi0,hz0,hz1,hz2⟩:=info_parts zcp;clear hx HS2 HP2;go_wp2_with (at_builtin;go_must (refine yn (P:=Tryz.prog) rfl (.tmp 111) (.tmp 113) _ rfl w.heap.size 244 i0 _ 1 24 Tryz.underlying251 hi0 hz0 hz1 hz2 rfl (by omega) _ i _ rfl HS3.out.mat.own ⟨W2.heap.size,0,none⟩ 1 1 [.slice (some ⟨gl,0,none⟩) (2*names.length+2) (2*names.length+2)] rfl rfl (by omega) hcell hone hnoi hzn ?o4 ?o5 ?o6 ?_))
       case o4=>unfold maxLen;omega
       case o5=>omega
       case o6=>exact HWS.out
       intro mv3 w4 hown hgr hat;obtain ⟨gm3,cap3,emv,_,_⟩:=hown.1.form (by omega);subst emv;have hrow:=HS3.out.row HP3.out HN5.out (fun j hj=>by unfold zns;rw [if_pos hil,HGD.out]) hown hgr;have c4:w4.cell? ⟨gt,3,none⟩=some mv:=by rw [hrow.blk.cell];rfl
       have f4:=hrow.blk.frozen 3;have HS4:=ze (hrow.store 3 (xl hown));rw [show (yV b (.slice (some ad) rows.length c) (.slice nA names.length nc) mv bv (.slice none 0 0)).setIfInBounds 3 (.slice (some ⟨gm3,0,none⟩) (i+1) cap3)=yV b (.slice (some ad) rows.length c) (.slice nA names.length nc) (.slice (some ⟨gm3,0,none⟩) (i+1) cap3) bv (.slice none 0 0) from rfl] at HS4;generalize w4.heap.size=N2 at HS4;generalize (fun j=>if j=i then gl else g j)=g2 at HS4;clear hown hgr hat hrow HS3 HP3 HWS hcell hone hnoi hzn c3 HN5 HLT2 HGSL
       go_upto_region 22 with fail
       clear c4 f4;generalize w4.setCell ⟨gt,3,none⟩ (.slice (some ⟨gm3,0,none⟩) (i+1) cap3)=W5 at HS4 |-;have b7:W5.cell? ⟨gt,7,none⟩=some bv:=by rw [HS4.out.blk.cell];rfl
       have b2:W5.cell? ⟨gt,2,none⟩=some (.slice nA names.length nc):=by rw [HS4.out.blk.cell];rfl
       have hg7:¬ bv.ownBlock=some gt:=fun e=>by
        obtain ⟨cs,k1⟩:=HS4.out.bas.heap e;exact xo HS4.out.blk k1 (by decide) rfl
       obtain ⟨B9,hB9⟩:∃ B9,B9=2*names.length+i:=⟨_,rfl⟩;have hsl:=fun w' (h:w'.cell? ⟨gt,2,none⟩=some (.slice nA names.length nc))=>zfd gt i nA names.length nc w' h (by omega) (by omega)
       rw [<- hB9] at hsl;have HSL:=ze hsl;have HB9:=ze hB9;clear hsl hB9;refine zq (S:=fun w' =>Hid (Chg (fun x=>bv.ownBlock=some x) W5 w')/\w'.cell? ⟨gt,7,none⟩=some bv/\w'.cell? ⟨gt,2,none⟩=some (.slice nA names.length nc)) 7 5 12 rfl (by kernel_rfl) (by kernel_rfl) (by kernel_rfl) rfl (zl (Zf W5) (fun hB=>⟨y8 hB b7 hg7,y8 hB b2 hg7⟩)) ?_ (fun hHeld=>?_)
       . intro _ _ _ _ _ h9;exact h9
       simp only [List.take_succ_cons,List.take_zero]
       iterate 7 (refine zD (v:=?_) ?_ ?_;rotate_left;(focus (as_aux_lemma=>(intro w9 hSw;(try dsimp only at hSw);go_split_ands;go_simp;try with_reducible rfl)));try simp only [Act.put,List.setIfInBounds_toArray,List.set_cons_zero,List.set_cons_succ])
       refine zI ?_;refine HH.ready (rs:=[7]) (by kernel_rfl) (by simp) (by kernel_rfl) ?_;refine zu.cons (o:=_) rfl (fun K hK=>?_) zu.nil
       go_simp
       go_at_call 231;refine (HSL.out _ hHeld.2.2).mono ?_;rintro e w9 ⟨rfl,rfl⟩;have hH0:=hHeld;clear hHeld;refine hK.out _ _ (zl (hH0.1) (fun hB=>⟨y8 hB b7 hg7,y8 hB b2 hg7⟩)) (fun hHeld=>?_);clear hH0 hK K
       try simp only [Act.put,List.setIfInBounds_toArray,List.set_cons_zero,List.set_cons_succ]
       clear HSL;refine HH.ready (rs:=[8]) (by kernel_rfl) (by simp) (by kernel_rfl) ?_;refine zu.cons (o:=_) rfl (fun K hK=>?_) zu.nil
       go_simp
       have hbx:=(yx W5 (.cells #[.int .i64 (B9:Int)] 3)).out;have HS5:=ze (HS4.out.below hbx);have hkp:Hid (Chg (fun x=>bv.ownBlock=some x) W5 (W5.alloc (.cells #[.int .i64 (B9:Int)] 3)).drew):=Chg.of_below hbx;have hH0:=hHeld;clear hHeld;refine hK.out _ _ (zl (hkp) (fun hB=>⟨y8 hB b7 hg7,y8 hB b2 hg7⟩)) (fun hHeld=>?_);clear hH0 hK K
       try simp only [Act.put,List.setIfInBounds_toArray,List.set_cons_zero,List.set_cons_succ]
       clear hkp hbx HS4;have hcell:=Yx (w:=W5) (t:=3) (v:=.int .i64 (B9:Int));have hone:=xY (v:=.int .i64 (B9:Int)) (p:=fun u=>u.oneCell' =true) rfl;have hnoi:=xY (v:=.int .i64 (B9:Int)) (p:=Zw) (xh _);have hzn:∀ u∈(Value.int .i64 0).cells,Zw u:=by intro u hu;simp [Value.cells] at hu;subst hu;exact xh _
       obtain ⟨i1,hi0,hz0,hz1,hz2⟩:=info_parts zey;have hws:=HS5.out.chg.size;refine HH.ready (rs:=[9]) (by kernel_rfl) (by simp) (by kernel_rfl) ?_;refine zu.cons (o:=_) rfl (fun K hK=>?_) zu.nil;rw [if_pos (by rfl)];refine xI (P:=Tryz.prog) (.tmp 121) (.tmp 125) _ rfl w.heap.size 3 i1 _ 1 8 Tryz.underlyingInts hi0 hz0 hz1 hz2 rfl (by omega) _ i _ rfl HS5.out.bas ⟨W5.heap.size,0,none⟩ 1 1 [.int .i64 (B9:Int)] rfl rfl (by omega) hcell hone hnoi hzn (by unfold maxLen;omega) (by omega) hws ?_;intro bv3 w6 hown hgr hat;obtain ⟨gb3,capb,ebv,_,_⟩:=hown.1.form (by omega);subst ebv;rw [show [Value.int .i64 (B9:Int)]=[.int .i64 (zpx names.length i:Nat)] by rw [HB9.out];rfl,Yh] at hown;have hbas:=HS5.out.basic hown hgr hat;have c7:w6.cell? ⟨gt,7,none⟩=some bv:=by rw [hbas.blk.cell];rfl
       have f7:=hbas.blk.frozen 7;have HS7:=ze (hbas.store 7 (xl hown));rw [show ∀ mv:Value,(yV b (.slice (some ad) rows.length c) (.slice nA names.length nc) mv bv (.slice none 0 0)).setIfInBounds 7 (.slice (some ⟨gb3,0,none⟩) (i+1) capb)=yV b (.slice (some ad) rows.length c) (.slice nA names.length nc) mv (.slice (some ⟨gb3,0,none⟩) (i+1) capb) (.slice none 0 0) from fun _=>rfl] at HS7;have hH0:=hHeld;clear hHeld;refine hK.out _ _ (zl (Yf (xZ hgr) hH0.1) (fun hB=>⟨y8 hB b7 hg7,y8 hB b2 hg7⟩)) (fun hHeld=>?_);clear hH0 hK K
       try simp only [Act.put,List.setIfInBounds_toArray,List.set_cons_zero,List.set_cons_succ]
       clear hown hgr hat hbas HS5 hcell hone hnoi hzn hws b7 b2 hg7;refine HH.take 10 (oi:=_) (v:=?_) rfl (by kernel_rfl) (by kernel_rfl) (by kernel_rfl) (fun _ _ _ h=>h) (Or.inl ⟨by rfl,?_⟩) ‹_› ?_;rotate_left
       . (intro w9 hSw;(try dsimp only at hSw);go_split_ands;go_simp;try with_reducible rfl)
       try simp only [Act.put,List.getElem_toArray,List.getElem_cons_succ,List.getElem_cons_zero,List.setIfInBounds_toArray,List.set_cons_zero,List.set_cons_succ]
       refine HH.take 11 (oi:=_) (v:=?_) rfl (by kernel_rfl) (by kernel_rfl) (by kernel_rfl) (fun _ _ _ h=>h) (Or.inl ⟨by rfl,?_⟩) ‹_› ?_;rotate_left
       . (intro w9 hSw;(try dsimp only at hSw);go_split_ands;go_simp;try with_reducible rfl)
       try simp only [Act.put,List.getElem_toArray,List.getElem_cons_succ,List.getElem_cons_zero,List.setIfInBounds_toArray,List.set_cons_zero,List.set_cons_succ]
       have HBY:=(hHeld.1).out;clear HBY hHeld;refine HH.done (by kernel_rfl) ?_;simp only [List.drop_succ_cons,List.drop_zero];go_wp2_with fail;go_roundw
       case rel=>exact ⟨i+1,_,_,_,_,_,by omega,by go_num,rfl,HS7⟩
       case measure=>simp [intOf];omega
  . obtain rfl:rows.length=i:=by omega
    obtain ⟨gs,cs,esv,_,_⟩:=HS.out.scl.choose_spec.1.1.form hm0;subst esv;have b3:wr.cell? ⟨gt,3,none⟩=some mv:=by rw [HS.out.blk.cell];rfl
    have hg3:¬ mv.ownBlock=some gt:=fun e=>by
     obtain ⟨cs,k1⟩:=HS.out.mat.own.heap e;exact xo HS.out.blk k1 (by decide) rfl
    have hmk:=fun w=>V5 .i64 (2*names.length+2) (by omega) w
    rw [HLL.out] at hmk
    go_upto_region 24 with fail
    refine zq (S:=fun w' =>Hid (Chg (fun x=>mv.ownBlock=some x) wr w')/\w'.cell? ⟨gt,3,none⟩=some mv) 8 5 13 rfl (by kernel_rfl) (by kernel_rfl) (by kernel_rfl) rfl (zl (Zf wr) (fun hB=>y8 hB b3 hg3)) ?_ (fun hHeld=>?_)
    . intro _ _ _ _ _ h9;exact h9
    simp only [List.take_succ_cons,List.take_zero]
    iterate 8 (refine zD (v:=?_) ?_ ?_;rotate_left;(focus (as_aux_lemma=>(intro w9 hSw;(try dsimp only at hSw);go_split_ands;go_simp;try with_reducible rfl)));try simp only [Act.put,List.setIfInBounds_toArray,List.set_cons_zero,List.set_cons_succ])
    refine zI ?_;refine HH.ready (rs:=[8]) (by kernel_rfl) (by simp) (by kernel_rfl) ?_;refine zu.cons (o:=_) rfl (fun K hK=>?_) zu.nil
    go_simp
    have hbx:=(yx wr (.cells (yq (2*names.length+2)) 109)).out;have hkp:Hid (Chg (fun x=>mv.ownBlock=some x) wr (wr.alloc (.cells (yq (2*names.length+2)) 109)).drew):=Chg.of_below hbx;have hH0:=hHeld;clear hHeld;refine hK.out _ _ (zl (hkp) (fun hB=>y8 hB b3 hg3)) (fun hHeld=>?_);clear hH0 hK K
    try simp only [Act.put,List.setIfInBounds_toArray,List.set_cons_zero,List.set_cons_succ]
    clear hkp hbx hmk;refine HH.ready (rs:=[9]) (by kernel_rfl) (by simp) (by kernel_rfl) ?_;refine zu.cons (o:=_) rfl (fun K hK=>?_) zu.nil
    go_simp
    have hx2:=zf (wr.alloc (.cells (yq (2*names.length+2)) 109)) (.cells #[.slice (some ⟨wr.heap.size,0,none⟩) (2*names.length+2) (2*names.length+2)] 244);have hbx:=zm (ext (zf wr (.cells (yq (2*names.length+2)) 109)) hx2) 1;have hb1:=zm hx2 1;have HP3:=ze ((zb9 wr (2*names.length+2)).below hb1);have HNL:=ze HS.out.top;have HS3:=ze (HS.out.below hbx);have hcell:=Yx (w:=wr.alloc (.cells (yq (2*names.length+2)) 109)) (t:=244) (v:=.slice (some ⟨wr.heap.size,0,none⟩) (2*names.length+2) (2*names.length+2));have hkp:Hid (Chg (fun x=>mv.ownBlock=some x) wr ((wr.alloc (.cells (yq (2*names.length+2)) 109)).alloc (.cells #[.slice (some ⟨wr.heap.size,0,none⟩) (2*names.length+2) (2*names.length+2)] 244)).drew):=Chg.of_below hbx;have hws:=HS3.out.chg.size;have hH0:=hHeld;clear hHeld;refine hK.out _ _ (zl (hkp) (fun hB=>y8 hB b3 hg3)) (fun hHeld=>?_);clear hH0 hK K
    try simp only [Act.put,List.setIfInBounds_toArray,List.set_cons_zero,List.set_cons_succ]
    clear hkp hbx hx2 hb1 HS;have hone:=xY (v:=.slice (some ⟨wr.heap.size,0,none⟩) (2*names.length+2) (2*names.length+2)) (p:=fun u=>u.oneCell' =true) rfl;have hnoi:=xY (v:=.slice (some ⟨wr.heap.size,0,none⟩) (2*names.length+2) (2*names.length+2)) (p:=Zw) (yf _ _ _);have hzn:∀ u∈(Value.slice none 0 0).cells,Zw u:=by intro u hu;simp [Value.cells] at hu;subst hu;exact yf _ _ _
    obtain ⟨i1,hi0,hz0,hz1,hz2⟩:=info_parts zcp;refine HH.ready (rs:=[10]) (by kernel_rfl) (by simp) (by kernel_rfl) ?_;refine zu.cons (o:=_) rfl (fun K hK=>?_) zu.nil;rw [if_pos (by rfl)];refine xI (P:=Tryz.prog) (.tmp 134) (.tmp 139) _ rfl w.heap.size 244 i1 _ 1 24 Tryz.underlying251 hi0 hz0 hz1 hz2 rfl (by omega) _ rows.length _ rfl HS3.out.mat.own ⟨(wr.alloc (.cells (yq (2*names.length+2)) 109)).heap.size,0,none⟩ 1 1 [.slice (some ⟨wr.heap.size,0,none⟩) (2*names.length+2) (2*names.length+2)] ?_ rfl (by omega) hcell hone hnoi hzn (by unfold maxLen;omega) (by omega) hws ?_
    . simp [Act.eval,World.size_alloc]
    intro mv3 w6 hown hgr hat;obtain ⟨gm3,cap3,emv,_,_⟩:=hown.1.form (by omega);subst emv;have hrow:=HS3.out.row HP3.out HNL.out (fun j hj=>by unfold zns;rw [if_neg (by omega)]) hown hgr;have c4:w6.cell? ⟨gt,3,none⟩=some mv:=by rw [hrow.blk.cell];rfl
    have f4:=hrow.blk.frozen 3;have HS4:=ze (hrow.store 3 (xl hown));rw [show (yV b (.slice rA rows.length c) (.slice nA names.length nc) mv bv (.slice none 0 0)).setIfInBounds 3 (.slice (some ⟨gm3,0,none⟩) (rows.length+1) cap3)=yV b (.slice rA rows.length c) (.slice nA names.length nc) (.slice (some ⟨gm3,0,none⟩) (rows.length+1) cap3) bv (.slice none 0 0) from rfl] at HS4;generalize w6.heap.size=N2 at HS4;generalize (fun j=>if j=rows.length then wr.heap.size else g j)=g2 at HS4;have hH0:=hHeld;clear hHeld;refine hK.out _ _ (zl (Yf (xZ hgr) hH0.1) (fun hB=>y8 hB b3 hg3)) (fun hHeld=>?_);clear hH0 hK K
    try simp only [Act.put,List.setIfInBounds_toArray,List.set_cons_zero,List.set_cons_succ]
    clear hown hgr hat hrow HS3 HP3 HNL hcell hone hnoi hzn hws b3 hg3;refine HH.take 11 (oi:=_) (v:=?_) rfl (by kernel_rfl) (by kernel_rfl) (by kernel_rfl) (fun _ _ _ h=>h) (Or.inl ⟨by rfl,?_⟩) ‹_› ?_;rotate_left
    . (intro w9 hSw;(try dsimp only at hSw);go_split_ands;go_simp;try with_reducible rfl)
    try simp only [Act.put,List.getElem_toArray,List.getElem_cons_succ,List.getElem_cons_zero,List.setIfInBounds_toArray,List.set_cons_zero,List.set_cons_succ]
    refine HH.take 12 (oi:=_) (v:=?_) rfl (by kernel_rfl) (by kernel_rfl) (by kernel_rfl) (fun _ _ _ h=>h) (Or.inl ⟨by rfl,?_⟩) ‹_› ?_;rotate_left
    . (intro w9 hSw;(try dsimp only at hSw);go_split_ands;go_simp;try with_reducible rfl)
    try simp only [Act.put,List.getElem_toArray,List.getElem_cons_succ,List.getElem_cons_zero,List.setIfInBounds_toArray,List.set_cons_zero,List.set_cons_succ]
    have HBY:=(hHeld.1).out;clear HBY hHeld;refine HH.done (by kernel_rfl) ?_;simp only [List.drop_succ_cons,List.drop_zero]
    go_upto_region 25 with fail
    clear c4 f4;generalize w6.setCell ⟨gt,3,none⟩ (.slice (some ⟨gm3,0,none⟩) (rows.length+1) cap3)=W7 at HS4 |-;go_wp2_with fail
    go_loopw [145] (BegO w b gt (.slice rA rows.length c) (.slice nA names.length nc) rows names g2 (.slice (some ⟨gm3,0,none⟩) (rows.length+1) cap3) bv (.slice (some ⟨gs,0,none⟩) rows.length cs)) (fun iv _=>2*names.length - (intOf iv).toNat)
    case atStart=>exact ⟨0,_,_,Nat.zero_le _,rfl,HS4⟩
    case round=>
     clear HS4;obtain ⟨k,N,ov,hk,rfl,HS⟩:=hrel
     by_cases hkl:k<2*names.length
     . have hki:(k:Int)<2*(names.length:Int):=by omega
       have c8:wr.cell? ⟨gt,8,none⟩=some ov:=by rw [HS.out.blk.cell];rfl
       have hx:=zf wr (.cells #[.int .i64 (k:Int)] 3);have HS3:=ze (HS.out.below hx);have hws:=HS3.out.chg.size;have HWS:=ze hws;have hcell:=Yx (w:=wr) (t:=3) (v:=.int .i64 (k:Int));have hone:=xY (v:=.int .i64 (k:Int)) (p:=fun u=>u.oneCell' =true) rfl;have hnoi:=xY (v:=.int .i64 (k:Int)) (p:=Zw) (xh _);have hzn:∀ u∈(Value.int .i64 0).cells,Zw u:=by intro u hu;simp [Value.cells] at hu;subst hu;exact xh _
       obtain ⟨i1,hi0,hz0,hz1,hz2⟩:=info_parts zey;clear hx HS hws;go_wp2_with (at_builtin;go_must (refine yn (P:=Tryz.prog) rfl (.tmp 152) (.tmp 154) _ rfl w.heap.size 3 i1 _ 1 8 Tryz.underlyingInts hi0 hz0 hz1 hz2 rfl (by omega) _ k _ rfl HS3.out.oth ⟨wr.heap.size,0,none⟩ 1 1 [.int .i64 (k:Int)] rfl rfl (by omega) hcell hone hnoi hzn ?o4 ?o5 ?o6 ?_))
       case o4=>unfold maxLen;omega
       case o5=>omega
       case o6=>exact HWS.out
       intro ov3 w6 hown hgr hat;obtain ⟨go3,capo,eov,_,_⟩:=hown.1.form (by omega);subst eov;rw [show [Value.int .i64 (k:Int)]=[.int .i64 (zn9 names.length rows.length k:Nat)] by unfold zn9;rw [if_pos hkl],Yh] at hown;have hoth:=HS3.out.other hown hgr (by rw [World.size_alloc];exact hat);have c9:w6.cell? ⟨gt,8,none⟩=some ov:=by rw [hoth.blk.cell];rfl
       have f9:=hoth.blk.frozen 8;have HS7:=ze (hoth.store 8 (xl hown));rw [show (yV b (.slice rA rows.length c) (.slice nA names.length nc) (.slice (some ⟨gm3,0,none⟩) (rows.length+1) cap3) bv ov).setIfInBounds 8 (.slice (some ⟨go3,0,none⟩) (k+1) capo)=yV b (.slice rA rows.length c) (.slice nA names.length nc) (.slice (some ⟨gm3,0,none⟩) (rows.length+1) cap3) bv (.slice (some ⟨go3,0,none⟩) (k+1) capo) from rfl] at HS7;clear hown hgr hat hoth HS3 HWS hcell hone hnoi hzn c8;go_wp2_with fail;go_roundw
       case rel=>exact ⟨k+1,_,_,by omega,by go_num,HS7⟩
       case measure=>simp [intOf];omega
     . obtain rfl:2*names.length=k:=by omega
       have c8:wr.cell? ⟨gt,8,none⟩=some ov:=by rw [HS.out.blk.cell];rfl
       have c1:wr.cell? ⟨gt,1,none⟩=some (.slice rA rows.length c):=by rw [HS.out.blk.cell];rfl
       have c2:wr.cell? ⟨gt,2,none⟩=some (.slice nA names.length nc):=by rw [HS.out.blk.cell];rfl
       have hg8:¬ ov.ownBlock=some gt:=fun e=>by
        obtain ⟨cs,k1⟩:=HS.out.oth.heap e;exact xo HS.out.blk k1 (by decide) rfl
       obtain ⟨B9,hB9⟩:∃ B9,B9=2*names.length+rows.length:=⟨_,rfl⟩;have hrm:=fun w' (h1:w'.cell? ⟨gt,1,none⟩=some (.slice rA rows.length c)) (h2:w'.cell? ⟨gt,2,none⟩=some (.slice nA names.length nc))=>zel gt rows.length names.length c nc rA nA w' h1 h2 (by omega) (by omega)
       rw [<- hB9] at hrm;have HRM:=ze hrm;have HB9:=ze hB9;clear hrm hB9
       go_upto_region 30 with fail
       refine zq (S:=fun w' =>Hid (Chg (fun x=>ov.ownBlock=some x) wr w')/\w'.cell? ⟨gt,8,none⟩=some ov/\w'.cell? ⟨gt,1,none⟩=some (.slice rA rows.length c)/\w'.cell? ⟨gt,2,none⟩=some (.slice nA names.length nc)) 6 5 11 rfl (by kernel_rfl) (by kernel_rfl) (by kernel_rfl) rfl (zl (Zf wr) (fun hB=>⟨y8 hB c8 hg8,y8 hB c1 hg8,y8 hB c2 hg8⟩)) ?_ (fun hHeld=>?_)
       . intro _ _ _ _ _ h9;exact h9
       simp only [List.take_succ_cons,List.take_zero]
       iterate 6 (refine zD (v:=?_) ?_ ?_;rotate_left;(focus (as_aux_lemma=>(intro w9 hSw;(try dsimp only at hSw);go_split_ands;go_simp;try with_reducible rfl)));try simp only [Act.put,List.setIfInBounds_toArray,List.set_cons_zero,List.set_cons_succ])
       refine zI ?_;refine HH.ready (rs:=[6]) (by kernel_rfl) (by simp) (by kernel_rfl) ?_;refine zu.cons (o:=_) rfl (fun K hK=>?_) zu.nil
       go_simp
       go_at_call 200;refine (HRM.out _ hHeld.2.2.1 hHeld.2.2.2).mono ?_;rintro e w5 ⟨rfl,hb2⟩;replace HS:=ze (HS.out.below (ext (zz wr).out hb2));have hH0:=hHeld;clear hHeld;refine hK.out _ _ (zl (ZJ hb2 hH0.1) (fun hB=>⟨y8 hB c8 hg8,y8 hB c1 hg8,y8 hB c2 hg8⟩)) (fun hHeld=>?_);clear hH0 hK K
       try simp only [Act.put,List.setIfInBounds_toArray,List.set_cons_zero,List.set_cons_succ]
       clear hb2 HRM;refine HH.ready (rs:=[7]) (by kernel_rfl) (by simp) (by kernel_rfl) ?_;refine zu.cons (o:=_) rfl (fun K hK=>?_) zu.nil
       go_simp
       have hx:=zf w5 (.cells #[.int .i64 (B9:Int)] 3);have HS3:=ze (HS.out.below hx);have hH0:=hHeld;clear hHeld;refine hK.out _ _ (zl (ZJ hx hH0.1) (fun hB=>⟨y8 hB c8 hg8,y8 hB c1 hg8,y8 hB c2 hg8⟩)) (fun hHeld=>?_);clear hH0 hK K
       try simp only [Act.put,List.setIfInBounds_toArray,List.set_cons_zero,List.set_cons_succ]
       clear hx HS;have hws:=HS3.out.chg.size;have hcell:=Yx (w:=w5) (t:=3) (v:=.int .i64 (B9:Int));have hone:=xY (v:=.int .i64 (B9:Int)) (p:=fun u=>u.oneCell' =true) rfl;have hnoi:=xY (v:=.int .i64 (B9:Int)) (p:=Zw) (xh _);have hzn:∀ u∈(Value.int .i64 0).cells,Zw u:=by intro u hu;simp [Value.cells] at hu;subst hu;exact xh _
       obtain ⟨i1,hi0,hz0,hz1,hz2⟩:=info_parts zey;refine HH.ready (rs:=[8]) (by kernel_rfl) (by simp) (by kernel_rfl) ?_;refine zu.cons (o:=_) rfl (fun K hK=>?_) zu.nil;rw [if_pos (by rfl)];refine xI (P:=Tryz.prog) (.tmp 163) (.tmp 166) _ rfl w.heap.size 3 i1 _ 1 8 Tryz.underlyingInts hi0 hz0 hz1 hz2 rfl (by omega) _ (2*names.length) _ rfl HS3.out.oth ⟨w5.heap.size,0,none⟩ 1 1 [.int .i64 (B9:Int)] rfl rfl (by omega) hcell hone hnoi hzn (by unfold maxLen;omega) (by omega) hws ?_;intro ov3 w6 hown hgr hat;obtain ⟨go3,capo,eov,_,_⟩:=hown.1.form (by omega);subst eov;rw [show [Value.int .i64 (B9:Int)]=[.int .i64 (zn9 names.length rows.length (2*names.length):Nat)] by unfold zn9;rw [if_neg (by omega),HB9.out],Yh] at hown;have hoth:=HS3.out.other hown hgr (by rw [World.size_alloc];first | exact hat | (simp at hat |-;exact hat));have c9:w6.cell? ⟨gt,8,none⟩=some ov:=by rw [hoth.blk.cell];rfl
       have f9:=hoth.blk.frozen 8;have HS7:=ze (hoth.store 8 (xl hown));rw [show (yV b (.slice rA rows.length c) (.slice nA names.length nc) (.slice (some ⟨gm3,0,none⟩) (rows.length+1) cap3) bv ov).setIfInBounds 8 (.slice (some ⟨go3,0,none⟩) (2*names.length+1) capo)=yV b (.slice rA rows.length c) (.slice nA names.length nc) (.slice (some ⟨gm3,0,none⟩) (rows.length+1) cap3) bv (.slice (some ⟨go3,0,none⟩) (2*names.length+1) capo) from rfl] at HS7;have hH0:=hHeld;clear hHeld;refine hK.out _ _ (zl (Yf (xZ hgr) hH0.1) (fun hB=>⟨y8 hB c8 hg8,y8 hB c1 hg8,y8 hB c2 hg8⟩)) (fun hHeld=>?_);clear hH0 hK K
       try simp only [Act.put,List.setIfInBounds_toArray,List.set_cons_zero,List.set_cons_succ]
       clear hown hgr hat hoth HS3 hcell hone hnoi hzn hws c8 hg8 c1 c2;refine HH.take 9 (oi:=_) (v:=?_) rfl (by kernel_rfl) (by kernel_rfl) (by kernel_rfl) (fun _ _ _ h=>h) (Or.inl ⟨by rfl,?_⟩) ‹_› ?_;rotate_left
       . (intro w9 hSw;(try dsimp only at hSw);go_split_ands;go_simp;try with_reducible rfl)
       try simp only [Act.put,List.getElem_toArray,List.getElem_cons_succ,List.getElem_cons_zero,List.setIfInBounds_toArray,List.set_cons_zero,List.set_cons_succ]
       refine HH.take 10 (oi:=_) (v:=?_) rfl (by kernel_rfl) (by kernel_rfl) (by kernel_rfl) (fun _ _ _ h=>h) (Or.inl ⟨by rfl,?_⟩) ‹_› ?_;rotate_left
       . (intro w9 hSw;(try dsimp only at hSw);go_split_ands;go_simp;try with_reducible rfl)
       try simp only [Act.put,List.getElem_toArray,List.getElem_cons_succ,List.getElem_cons_zero,List.setIfInBounds_toArray,List.set_cons_zero,List.set_cons_succ]
       have HBY:=(hHeld.1).out;clear HBY hHeld;refine HH.done (by kernel_rfl) ?_;simp only [List.drop_succ_cons,List.drop_zero];go_wp2_with fail;go_ret2;have HS:=HS7.out;refine ⟨⟨gt,some b,rA,c,nA,names.length,nc,gm3,cap3,g2,bv,.slice (some ⟨go3,0,none⟩) (2*names.length+1) capo⟩,gs,cs,rfl,⟨rfl,rfl,rfl,rfl,rfl,rfl,⟨⟨1,none,0,0,false,HS.blk,.inl ⟨1,false,rfl,by omega,by omega,rfl⟩⟩,HS.mat,HS.bas,?_,HS.one,HS.lo,rfl⟩,?_,HS.book,HS.chg,(fun i hi e=>HS.sne i (by omega) (by rw [show g2 i=gs from e];rfl)),HS.scl.heap rfl⟩⟩
       . show vp _ _ _ _ _ (2*names.length+2 - 1) (yA (2*names.length+2 - 1) _)
         rw [show 2*names.length+2 - 1=2*names.length+1 by omega];exact HS.oth
       . obtain ⟨A',cap',e1,e2,e3,e4⟩:=HS.scl.nums
         obtain ⟨g9,e5,e6,e7⟩:=e4 hm0;injection e1 with e8 e9 e10
         rw [e5] at e8;injection e8 with e8
         injection e8 with e8
         subst e8;exact ⟨e6,e7⟩
def FeaR (w0:World) (base m L:Nat) (F:zN) (T:ym) (lv iv:Value) (wr:World):Prop:=
 ∃ i:Nat,i<=m/\iv= .int .i64 (i:Nat)/\lv= .int .i64 (-1)/\Hid (zW base m L F wr T)/\Hid (Below w0.heap.size w0 wr)
def zo2 (base m L:Nat) (F:zN) (T:ym) (w:World) (e:Ending) (w' :World):Prop:=e= .returned (.bool true)/\zW base m L F w' T/\Below w.heap.size w w'
theorem zam (base m L:Nat) (F:zN) (T:ym) (w:World) (hT:zW base m L F w T) (hp:∀ i,i<m->0<=T.cell i 0) (hm:m<=100000) (hL:L<=100000):
 Calls Tryz.prog 196 #[.pointer (some ⟨F.gt,0,none⟩)] w (zo2 base m L F T w):=by
 have t1:=hT.cell1
 have HP:=ze hp
 have HL1:=ze (show 0<L by have:=hT.lt2;omega)
 have hL1:=HL1.out
 have HT:=ze hT
 have HW:=ze (xu w)
 clear hT hp
 go_enter Tryz.func196,Tryz.ntmps196
 go_wp2_with fail
 go_loopw [3,13] (FeaR w base m L F T) (fun _ iv _=>m - (intOf iv).toNat)
 case atStart=>exact ⟨0,Nat.zero_le _,rfl,rfl,HT,HW⟩
 case round=>
  clear HT HW t1
  obtain ⟨i,hi,rfl,rfl,HT,HW⟩:=hrel
  by_cases hil:i<m
  . have hii:(i:Int)<(m:Int):=by omega
    have hi1:(i:Int)<(m:Int)+1:=by omega
    have t3:=HT.out.cell3;have t4:=HT.out.mat.cell (i:=i) (by omega);obtain ⟨ax,aA,an,ac,ag,a0,a1,a2,ha⟩:=HT.out.mat.at_ (i:=i) (k:=0) (by omega) HL1.out;simp only [Nat.zero_mul,Nat.zero_add] at a0 a1 a2;have tL:=HT.out.lt;have mL:=HT.out.mat.lt.2;have aL:=(HT.out.mat.rows i (by omega)).2.lt;obtain ⟨sg,hsg⟩:∃ sg:Int,zG (T.cell i 0) 0=sg:=⟨_,rfl⟩;have hcp:=zax (z:=T.cell i 0);have hsi:=fun w' (h:zO w' (.agg #[.int .i64 ax,.slice aA an ac,.bool ag]) (T.cell i 0))=>Ye _ _ w' h
    rw [hsg] at hcp hsi;have d1:decide (sg<0)=false:=decide_eq_false (fun h=>by have:=hcp.2 (HP.out i hil);omega);have HA:=ze ha;have HSI:=ze hsi;clear ha hsg hcp hsi
    go_upto_region 5 with fail
    refine zq (S:=fun w' =>Hid (Below wr.heap.size wr w')/\w'.cell? ⟨F.gt,3,none⟩=some (.slice (some ⟨F.gm,0,none⟩) (m+1) F.cm)/\w'.cell? ⟨F.gm,i,none⟩=some (.slice (some ⟨F.g i,0,none⟩) L L)/\w'.cell? ⟨F.g i,0,none⟩=some (.int .i64 ax)/\w'.cell? ⟨F.g i,1,none⟩=some (.slice aA an ac)/\w'.cell? ⟨F.g i,2,none⟩=some (.bool ag)) 9 27 36 rfl (by kernel_rfl) (by kernel_rfl) (by kernel_rfl) rfl (zl (zz wr) (fun hB=>⟨zh hB tL t3,zh hB mL t4,zh hB aL a0,zh hB aL a1,zh hB aL a2⟩)) ?_ (fun hHeld=>?_)
    . intro _ _ _ _ _ h9;exact h9
    simp only [List.take_succ_cons,List.take_zero]
    iterate 9 (refine zD (v:=?_) ?_ ?_;rotate_left;(focus (as_aux_lemma=>(intro w9 hSw;(try dsimp only at hSw);go_split_ands;go_simp;try with_reducible rfl)));try simp only [Act.put,List.setIfInBounds_toArray,List.set_cons_zero,List.set_cons_succ])
    refine zI ?_;refine HH.ready (rs:=[9]) (by kernel_rfl) (by simp) (by kernel_rfl) ?_;refine zu.cons (o:=_) rfl (fun K hK=>?_) zu.nil
    go_simp
    go_at_call 145;refine (HSI.out _ (HA.out.below hHeld.1.out)).mono ?_;rintro e w1 ⟨rfl,hb1⟩;have hH0:=hHeld;clear hHeld;refine hK.out _ _ (zl (zt hb1 hH0.1) (fun hB=>⟨zh hB tL t3,zh hB mL t4,zh hB aL a0,zh hB aL a1,zh hB aL a2⟩)) (fun hHeld=>?_);clear hH0 hK K
    try simp only [Act.put,List.setIfInBounds_toArray,List.set_cons_zero,List.set_cons_succ]
    clear hb1;refine HH.take 10 (oi:=_) (v:=?_) rfl (by kernel_rfl) (by kernel_rfl) (by kernel_rfl) (fun _ _ _ h=>h) (Or.inl ⟨by rfl,?_⟩) ‹_› ?_;rotate_left
    . (intro w9 hSw;(try dsimp only at hSw);go_split_ands;go_simp;try with_reducible rfl)
    try simp only [Act.put,List.getElem_toArray,List.getElem_cons_succ,List.getElem_cons_zero,List.setIfInBounds_toArray,List.set_cons_zero,List.set_cons_succ]
    refine HH.take 11 (oi:=_) (v:=?_) rfl (by kernel_rfl) (by kernel_rfl) (by kernel_rfl) (fun _ _ _ h=>h) (Or.inl ⟨by rfl,?_⟩) ‹_› ?_;rotate_left
    . (intro w9 hSw;(try dsimp only at hSw);go_split_ands;go_simp;try with_reducible rfl)
    try simp only [Act.put,List.getElem_toArray,List.getElem_cons_succ,List.getElem_cons_zero,List.setIfInBounds_toArray,List.set_cons_zero,List.set_cons_succ]
    refine HH.take 12 (oi:=_) (v:=_) rfl (by kernel_rfl) (by kernel_rfl) (by kernel_rfl) (fun _ _ _ h=>h) (Or.inr ⟨by rfl,rfl⟩) ‹_› ?_
    try simp only [Act.put,List.getElem_toArray,List.getElem_cons_succ,List.getElem_cons_zero,List.setIfInBounds_toArray,List.set_cons_zero,List.set_cons_succ]
    refine HH.take 13 (oi:=_) (v:=_) rfl (by kernel_rfl) (by kernel_rfl) (by kernel_rfl) (fun _ _ _ h=>h) (Or.inr ⟨by rfl,rfl⟩) ‹_› ?_
    try simp only [Act.put,List.getElem_toArray,List.getElem_cons_succ,List.getElem_cons_zero,List.setIfInBounds_toArray,List.set_cons_zero,List.set_cons_succ]
    refine HH.take 14 (oi:=_) (v:=_) rfl (by kernel_rfl) (by kernel_rfl) (by kernel_rfl) (fun _ _ _ h=>h) (Or.inr ⟨by rfl,rfl⟩) ‹_› ?_
    try simp only [Act.put,List.getElem_toArray,List.getElem_cons_succ,List.getElem_cons_zero,List.setIfInBounds_toArray,List.set_cons_zero,List.set_cons_succ]
    refine HH.take 15 (oi:=_) (v:=_) rfl (by kernel_rfl) (by kernel_rfl) (by kernel_rfl) (fun _ _ _ h=>h) (Or.inr ⟨by rfl,rfl⟩) ‹_› ?_
    try simp only [Act.put,List.getElem_toArray,List.getElem_cons_succ,List.getElem_cons_zero,List.setIfInBounds_toArray,List.set_cons_zero,List.set_cons_succ]
    refine HH.take 16 (oi:=_) (v:=_) rfl (by kernel_rfl) (by kernel_rfl) (by kernel_rfl) (fun _ _ _ h=>h) (Or.inr ⟨by rfl,rfl⟩) ‹_› ?_
    try simp only [Act.put,List.getElem_toArray,List.getElem_cons_succ,List.getElem_cons_zero,List.setIfInBounds_toArray,List.set_cons_zero,List.set_cons_succ]
    refine HH.take 17 (oi:=_) (v:=_) rfl (by kernel_rfl) (by kernel_rfl) (by kernel_rfl) (fun _ _ _ h=>h) (Or.inr ⟨by rfl,rfl⟩) ‹_› ?_
    try simp only [Act.put,List.getElem_toArray,List.getElem_cons_succ,List.getElem_cons_zero,List.setIfInBounds_toArray,List.set_cons_zero,List.set_cons_succ]
    refine HH.take 18 (oi:=_) (v:=_) rfl (by kernel_rfl) (by kernel_rfl) (by kernel_rfl) (fun _ _ _ h=>h) (Or.inr ⟨by rfl,rfl⟩) ‹_› ?_
    try simp only [Act.put,List.getElem_toArray,List.getElem_cons_succ,List.getElem_cons_zero,List.setIfInBounds_toArray,List.set_cons_zero,List.set_cons_succ]
    refine HH.take 19 (oi:=_) (v:=_) rfl (by kernel_rfl) (by kernel_rfl) (by kernel_rfl) (fun _ _ _ h=>h) (Or.inr ⟨by rfl,rfl⟩) ‹_› ?_
    try simp only [Act.put,List.getElem_toArray,List.getElem_cons_succ,List.getElem_cons_zero,List.setIfInBounds_toArray,List.set_cons_zero,List.set_cons_succ]
    refine HH.take 20 (oi:=_) (v:=_) rfl (by kernel_rfl) (by kernel_rfl) (by kernel_rfl) (fun _ _ _ h=>h) (Or.inr ⟨by rfl,rfl⟩) ‹_› ?_
    try simp only [Act.put,List.getElem_toArray,List.getElem_cons_succ,List.getElem_cons_zero,List.setIfInBounds_toArray,List.set_cons_zero,List.set_cons_succ]
    refine HH.take 21 (oi:=_) (v:=_) rfl (by kernel_rfl) (by kernel_rfl) (by kernel_rfl) (fun _ _ _ h=>h) (Or.inr ⟨by rfl,rfl⟩) ‹_› ?_
    try simp only [Act.put,List.getElem_toArray,List.getElem_cons_succ,List.getElem_cons_zero,List.setIfInBounds_toArray,List.set_cons_zero,List.set_cons_succ]
    refine HH.take 22 (oi:=_) (v:=_) rfl (by kernel_rfl) (by kernel_rfl) (by kernel_rfl) (fun _ _ _ h=>h) (Or.inr ⟨by rfl,rfl⟩) ‹_› ?_
    try simp only [Act.put,List.getElem_toArray,List.getElem_cons_succ,List.getElem_cons_zero,List.setIfInBounds_toArray,List.set_cons_zero,List.set_cons_succ]
    refine HH.take 23 (oi:=_) (v:=_) rfl (by kernel_rfl) (by kernel_rfl) (by kernel_rfl) (fun _ _ _ h=>h) (Or.inr ⟨by rfl,rfl⟩) ‹_› ?_
    try simp only [Act.put,List.getElem_toArray,List.getElem_cons_succ,List.getElem_cons_zero,List.setIfInBounds_toArray,List.set_cons_zero,List.set_cons_succ]
    refine HH.take 24 (oi:=_) (v:=_) rfl (by kernel_rfl) (by kernel_rfl) (by kernel_rfl) (fun _ _ _ h=>h) (Or.inr ⟨by rfl,rfl⟩) ‹_› ?_
    try simp only [Act.put,List.getElem_toArray,List.getElem_cons_succ,List.getElem_cons_zero,List.setIfInBounds_toArray,List.set_cons_zero,List.set_cons_succ]
    refine HH.take 25 (oi:=_) (v:=_) rfl (by kernel_rfl) (by kernel_rfl) (by kernel_rfl) (fun _ _ _ h=>h) (Or.inr ⟨by rfl,rfl⟩) ‹_› ?_
    try simp only [Act.put,List.getElem_toArray,List.getElem_cons_succ,List.getElem_cons_zero,List.setIfInBounds_toArray,List.set_cons_zero,List.set_cons_succ]
    refine HH.take 26 (oi:=_) (v:=_) rfl (by kernel_rfl) (by kernel_rfl) (by kernel_rfl) (fun _ _ _ h=>h) (Or.inr ⟨by rfl,rfl⟩) ‹_› ?_
    try simp only [Act.put,List.getElem_toArray,List.getElem_cons_succ,List.getElem_cons_zero,List.setIfInBounds_toArray,List.set_cons_zero,List.set_cons_succ]
    refine HH.take 27 (oi:=_) (v:=_) rfl (by kernel_rfl) (by kernel_rfl) (by kernel_rfl) (fun _ _ _ h=>h) (Or.inr ⟨by rfl,rfl⟩) ‹_› ?_
    try simp only [Act.put,List.getElem_toArray,List.getElem_cons_succ,List.getElem_cons_zero,List.setIfInBounds_toArray,List.set_cons_zero,List.set_cons_succ]
    refine HH.take 28 (oi:=_) (v:=_) rfl (by kernel_rfl) (by kernel_rfl) (by kernel_rfl) (fun _ _ _ h=>h) (Or.inr ⟨by rfl,rfl⟩) ‹_› ?_
    try simp only [Act.put,List.getElem_toArray,List.getElem_cons_succ,List.getElem_cons_zero,List.setIfInBounds_toArray,List.set_cons_zero,List.set_cons_succ]
    refine HH.take 29 (oi:=_) (v:=_) rfl (by kernel_rfl) (by kernel_rfl) (by kernel_rfl) (fun _ _ _ h=>h) (Or.inr ⟨by rfl,rfl⟩) ‹_› ?_
    try simp only [Act.put,List.getElem_toArray,List.getElem_cons_succ,List.getElem_cons_zero,List.setIfInBounds_toArray,List.set_cons_zero,List.set_cons_succ]
    refine HH.take 30 (oi:=_) (v:=_) rfl (by kernel_rfl) (by kernel_rfl) (by kernel_rfl) (fun _ _ _ h=>h) (Or.inr ⟨by rfl,rfl⟩) ‹_› ?_
    try simp only [Act.put,List.getElem_toArray,List.getElem_cons_succ,List.getElem_cons_zero,List.setIfInBounds_toArray,List.set_cons_zero,List.set_cons_succ]
    refine HH.take 31 (oi:=_) (v:=_) rfl (by kernel_rfl) (by kernel_rfl) (by kernel_rfl) (fun _ _ _ h=>h) (Or.inr ⟨by rfl,rfl⟩) ‹_› ?_
    try simp only [Act.put,List.getElem_toArray,List.getElem_cons_succ,List.getElem_cons_zero,List.setIfInBounds_toArray,List.set_cons_zero,List.set_cons_succ]
    refine HH.take 32 (oi:=_) (v:=_) rfl (by kernel_rfl) (by kernel_rfl) (by kernel_rfl) (fun _ _ _ h=>h) (Or.inr ⟨by rfl,rfl⟩) ‹_› ?_
    try simp only [Act.put,List.getElem_toArray,List.getElem_cons_succ,List.getElem_cons_zero,List.setIfInBounds_toArray,List.set_cons_zero,List.set_cons_succ]
    refine HH.take 33 (oi:=_) (v:=_) rfl (by kernel_rfl) (by kernel_rfl) (by kernel_rfl) (fun _ _ _ h=>h) (Or.inr ⟨by rfl,rfl⟩) ‹_› ?_
    try simp only [Act.put,List.getElem_toArray,List.getElem_cons_succ,List.getElem_cons_zero,List.setIfInBounds_toArray,List.set_cons_zero,List.set_cons_succ]
    refine HH.take 34 (oi:=_) (v:=_) rfl (by kernel_rfl) (by kernel_rfl) (by kernel_rfl) (fun _ _ _ h=>h) (Or.inr ⟨by rfl,rfl⟩) ‹_› ?_
    try simp only [Act.put,List.getElem_toArray,List.getElem_cons_succ,List.getElem_cons_zero,List.setIfInBounds_toArray,List.set_cons_zero,List.set_cons_succ]
    refine HH.take 35 (oi:=_) (v:=_) rfl (by kernel_rfl) (by kernel_rfl) (by kernel_rfl) (fun _ _ _ h=>h) (Or.inr ⟨by rfl,rfl⟩) ‹_› ?_
    try simp only [Act.put,List.getElem_toArray,List.getElem_cons_succ,List.getElem_cons_zero,List.setIfInBounds_toArray,List.set_cons_zero,List.set_cons_succ]
    have HBY:=(hHeld.1).out;replace HT:=ze (zW.below HT.out HBY);replace HW:=eb_ HW HBY;clear HBY hHeld;refine HH.done (by kernel_rfl) ?_;simp only [List.drop_succ_cons,List.drop_zero];clear t3 t4 a0 a1 a2 tL mL aL HA HSI;go_wp2_with fail;go_roundw
    case rel=>exact ⟨i+1,by omega,by go_num,rfl,HT,HW⟩
    case measure=>simp [intOf];omega
  . obtain rfl:m=i:=by omega
    go_wp2_with fail;go_ret;exact ⟨by go_num,HT.out,HW.out⟩
def zeo (g nn:Nat) (f:Nat->Rat) (w:World) (e:Ending) (w' :World):Prop:=e= .returned (.tuple #[])/\yK w' g nn nn f/\Chg (· =g) w w'
theorem zip (base m L:Nat) (F:zN) (T:ym) (bT bO g u:Nat) (f:Nat->Rat) (vx:Value) (q:Rat) (w:World) (hT:zW base m L F w T) (hb:w.cell? ⟨bT,0,none⟩=some (.pointer (some ⟨F.gt,0,none⟩))) (hr:yK w g F.nn F.nn f) (hx:yE w vx q)
 (hu:2*F.nn<=u) (hu2:u<=1000000):
 Calls Tryz.prog 237 #[.int .i64 (u:Nat),vx,.pointer (some ⟨bT,0,none⟩),.pointer (some ⟨bO,0,none⟩)] w (zeo g F.nn f w):=by
 obtain ⟨x1,A1,k1,c1,s1,y1,B1,k1x,c1x,t1,rfl,hx1,hx2⟩:=hx
 have hxx:=zf w (.cells #[.int .i64 x1,.slice A1 k1 c1,.bool s1,.int .i64 y1,.slice B1 k1x c1x,.bool t1] 111)
 have HR:=ze (hr.below hxx)
 have HC:Hid (Chg (· =g) w (w.alloc (.cells #[.int .i64 x1,.slice A1 k1 c1,.bool s1,.int .i64 y1,.slice B1 k1x c1x,.bool t1] 111))):=Chg.of_below hxx
 have c2:=(hT.below hxx).cell2
 have hb' :=(hxx.cell (p:=⟨bT,0,none⟩) (World.block_lt_of_cell? w _ hb)).trans hb
 have h2n:IntKind.i64.wrap (2*(F.nn:Int))=2*(F.nn:Int):=by rw [IntKind.wrap_i64];omega
 have d1:decide ((u:Int) ≥ 2*(F.nn:Int))=true:=by rw [decide_eq_true_iff];omega
 clear hxx hr hT hx1 hx2 hb
 go_enter Tryz.func237,Tryz.ntmps237
 go_upto_region 1 with fail
 generalize w.alloc (.cells #[.int .i64 x1,.slice A1 k1 c1,.bool s1,.int .i64 y1,.slice B1 k1x c1x,.bool t1] 111)=W at HR HC c2 hb' |-
 go_wp2_with fail
 go_end0
 exact ⟨rfl,HR.out,HC.out⟩
theorem zim (base m L:Nat) (F:zN) (T:ym) (bT bO g k u:Nat) (f:Nat->Rat) (vx:Value) (q:Rat) (w:World) (hT:zW base m L F w T) (hb:w.cell? ⟨bT,0,none⟩=some (.pointer (some ⟨F.gt,0,none⟩))) (ho:w.cell? ⟨bO,0,none⟩=some (.slice (some ⟨g,0,none⟩) F.nn F.nn))
 (hr:yK w g F.nn F.nn f) (hx:yE w vx q) (hu:u=2*k) (hk:k<F.nn) (hnn:F.nn<=100000) (hl1:Yz 8388608 (f k)) (hl2:Yz 8388608 q):
 Calls Tryz.prog 237 #[.int .i64 (u:Nat),vx,.pointer (some ⟨bT,0,none⟩),.pointer (some ⟨bO,0,none⟩)] w (zeo g F.nn (fun j=>if j=k then f j+q else f j) w):=by
 obtain ⟨x1,A1,k1,c1,s1,y1,B1,k1x,c1x,t1,rfl,hx1,hx2⟩:=hx
 have hxx:=zf w (.cells #[.int .i64 x1,.slice A1 k1 c1,.bool s1,.int .i64 y1,.slice B1 k1x c1x,.bool t1] 111)
 have HR:=ze (hr.below hxx)
 have HC:Hid (Chg (· =g) w (w.alloc (.cells #[.int .i64 x1,.slice A1 k1 c1,.bool s1,.int .i64 y1,.slice B1 k1x c1x,.bool t1] 111))):=Chg.of_below hxx
 have c2:=(hT.below hxx).cell2
 have hb' :=(hxx.cell (p:=⟨bT,0,none⟩) (World.block_lt_of_cell? w _ hb)).trans hb
 have ho' :=(hxx.cell (p:=⟨bO,0,none⟩) (World.block_lt_of_cell? w _ ho)).trans ho
 have HKX:=ze (Blk.new w 111 #[.int .i64 x1,.slice A1 k1 c1,.bool s1,.int .i64 y1,.slice B1 k1x c1x,.bool t1])
 have HX:Hid (yE (w.alloc (.cells #[.int .i64 x1,.slice A1 k1 c1,.bool s1,.int .i64 y1,.slice B1 k1x c1x,.bool t1] 111)) (.agg #[.int .i64 x1,.slice A1 k1 c1,.bool s1,.int .i64 y1,.slice B1 k1x c1x,.bool t1]) q):=yE.below ⟨_,_,_,_,_,_,_,_,_,_,rfl,hx1,hx2⟩ hxx
 have h2n:IntKind.i64.wrap (2*(F.nn:Int))=2*(F.nn:Int):=by rw [IntKind.wrap_i64];omega
 have d1:decide ((u:Int) ≥ 2*(F.nn:Int))=false:=by rw [decide_eq_false_iff_not];omega
 have e1:((u:Int).tmod 2)=0:=by rw [Int.tmod_eq_emod_of_nonneg (by omega)];omega
 have e2:((u:Int).tdiv 2)=(k:Int):=by rw [Int.tdiv_eq_ediv_of_nonneg (by omega)];omega
 have e3:(u:Int) % 2=0:=by omega
 have e4:(u:Int) / 2=(k:Int):=by omega
 have hki:(k:Int)<(F.nn:Int):=by omega
 have e5:IntKind.i64.wrap (k:Int)=(k:Int):=by rw [IntKind.wrap_i64];omega
 have e6:(0:Int)<=(k:Int):=by omega
 have HL1:=ze hl1
 have HL2:=ze hl2
 have HKL:=ze hk
 clear hxx hr hT hx1 hx2 hb ho hu hl1 hl2
 go_enter Tryz.func237,Tryz.ntmps237
 go_upto_region 1 with fail
 generalize w.alloc (.cells #[.int .i64 x1,.slice A1 k1 c1,.bool s1,.int .i64 y1,.slice B1 k1x c1x,.bool t1] 111)=W at HR HC HKX HX c2 hb' ho' |-
 generalize w.heap.size=gx at HKX |-
 go_upto_region 4 with fail
 clear c2 hb' d1 h2n
 have o0:=ho'
 have oL:=World.block_lt_of_cell? W _ o0
 obtain ⟨ax,aA,an,ac,asg,ay,aB,an',ac',at',a0,a1,a2,a3,a4,a5,ha⟩:=HR.out.2 k HKL.out
 have aL:=HR.out.lt
 have q0:=HKX.out.cell 0
 have q1:=HKX.out.cell 1
 have q2:=HKX.out.cell 2
 have q3:=HKX.out.cell 3
 have q4:=HKX.out.cell 4
 have q5:=HKX.out.cell 5
 have xL:=HKX.out.lt
 simp at q0 q1 q2 q3 q4 q5
 have HA:=ze ha
 clear ha ho'
 refine zq (S:=fun w' =>Hid (Below W.heap.size W w')/\w'.cell? ⟨bO,0,none⟩=some (.slice (some ⟨g,0,none⟩) F.nn F.nn)/\w'.cell? ⟨g,k*6,none⟩=some (.int .i64 ax)/\w'.cell? ⟨g,k*6+1,none⟩=some (.slice aA an ac)/\w'.cell? ⟨g,k*6+2,none⟩=some (.bool asg)/\w'.cell? ⟨g,k*6+3,none⟩=some (.int .i64 ay)/\w'.cell? ⟨g,k*6+4,none⟩=some (.slice aB an' ac')/\w'.cell? ⟨g,k*6+5,none⟩=some (.bool at')/\w'.cell? ⟨gx,0,none⟩=some (.int .i64 x1)/\w'.cell? ⟨gx,1,none⟩=some (.slice A1 k1 c1)/\w'.cell? ⟨gx,2,none⟩=some (.bool s1)/\w'.cell? ⟨gx,3,none⟩=some (.int .i64 y1)/\w'.cell? ⟨gx,4,none⟩=some (.slice B1 k1x c1x)/\w'.cell? ⟨gx,5,none⟩=some (.bool t1)) 9 2 11 rfl (by kernel_rfl) (by kernel_rfl) (by kernel_rfl) rfl (zl (zz W) (fun hB=>⟨zh hB oL o0,zh hB aL a0,zh hB aL a1,zh hB aL a2,zh hB aL a3,zh hB aL a4,zh hB aL a5,zh hB xL q0,zh hB xL q1,zh hB xL q2,zh hB xL q3,zh hB xL q4,zh hB xL q5⟩)) ?_ (fun hHeld=>?_)
 . intro _ _ _ _ _ h9;exact h9
 simp only [List.take_succ_cons,List.take_zero]
 iterate 9 (refine zD (v:=?_) ?_ ?_;rotate_left;(focus (as_aux_lemma=>(intro w9 hSw;(try dsimp only at hSw);go_split_ands;go_simp;try with_reducible rfl)));try simp only [Act.put,List.setIfInBounds_toArray,List.set_cons_zero,List.set_cons_succ])
 refine zI ?_
 refine HH.ready (rs:=[9]) (by kernel_rfl) (by simp) (by kernel_rfl) ?_
 refine zu.cons (o:=_) rfl (fun K hK=>?_) zu.nil
 go_simp
 go_at_call 120
 refine (VG _ _ _ _ _ (HA.out.below hHeld.1.out) (HX.out.below hHeld.1.out) HL1.out HL2.out).mono ?_
 rintro e w2 ⟨v1,rfl,hv,hb2⟩
 have HX1:=ze hv
 clear hv
 have hH0:=hHeld
 clear hHeld
 refine hK.out _ _ (zl (zt hb2 hH0.1) (fun hB=>⟨zh hB oL o0,zh hB aL a0,zh hB aL a1,zh hB aL a2,zh hB aL a3,zh hB aL a4,zh hB aL a5,zh hB xL q0,zh hB xL q1,zh hB xL q2,zh hB xL q3,zh hB xL q4,zh hB xL q5⟩)) (fun hHeld=>?_)
 clear hH0 hK K
 try simp only [Act.put,List.setIfInBounds_toArray,List.set_cons_zero,List.set_cons_succ]
 clear hb2
 refine HH.take 10 (oi:=_) (v:=?_) rfl (by kernel_rfl) (by kernel_rfl) (by kernel_rfl) (fun _ _ _ h=>h) (Or.inl ⟨by rfl,?_⟩) ‹_› ?_
 rotate_left
 . (intro w9 hSw;(try dsimp only at hSw);go_split_ands;go_simp;try with_reducible rfl)
 try simp only [Act.put,List.getElem_toArray,List.getElem_cons_succ,List.getElem_cons_zero,List.setIfInBounds_toArray,List.set_cons_zero,List.set_cons_succ]
 have HBY:=(hHeld.1).out
 replace HR:=ze (yK.below HR.out HBY)
 replace HC:=ze (yl HC.out HBY)
 clear HBY hHeld
 refine HH.done (by kernel_rfl) ?_
 simp only [List.drop_succ_cons,List.drop_zero]
 clear HA HX a0 a1 a2 a3 a4 a5 q0 q1 q2 q3 q4 q5 oL aL xL o0 HKX HL1 HL2
 obtain ⟨x,A,n,c,s,y,B,n',c',t,rfl,hv1,hv2⟩:=HX1.out
 obtain ⟨u0,u1,u2,u3,u4,u5,s0,s1,s2,s3,s4,s5⟩:=HR.out.slots HKL.out
 have f0:=HR.out.frozen (k*6)
 have f1:=HR.out.frozen (k*6+1)
 have f2:=HR.out.frozen (k*6+2)
 have f3:=HR.out.frozen (k*6+3)
 have f4:=HR.out.frozen (k*6+4)
 have f5:=HR.out.frozen (k*6+5)
 have hcn:=Y0 (w:=w2) (g:=g) (k:=k) (x:=x) (s:=s) (A:=A) (n:=n) (c:=c) (y:=y) (t:=t) (B:=B) (n' :=n') (c' :=c')
 have HR2:Hid (yK (World.ratAt w2 g k x A n c s y B n' c' t) g F.nn F.nn (fun j=>if j=k then f j+q else f j)):=HR.out.set HKL.out HX1.out (fun j hj=>by
  by_cases e:j=k
  . exact .inl ⟨e,by subst e;rw [if_pos rfl]⟩
  . exact .inr ⟨e,hj,by rw [if_neg e]⟩)
 have HC2:Hid (Chg (· =g) w (World.ratAt w2 g k x A n c s y B n' c' t)):=HC.out.trans hcn (fun _ _ h=>h)
 clear HR HC HX1 hcn hv1 hv2
 go_wp2_with fail
 go_end0
 exact ⟨rfl,HR2.out,HC2.out⟩
def za2 (T:ym) (nn:Nat):Nat->Nat->Rat
 | 0=>fun _=>0
 | i+1=>fun j=>if T.basic i<2*nn/\j=T.basic i / 2 then za2 T nn i j+Rat.divInt (T.cell i 0) T.den else za2 T nn i j
def VcA (w0:World) (n g bT bO gt:Nat) (iv:Value) (wr:World):Prop:=
 ∃ i:Nat,i<=n/\iv= .int .i64 i/\Hid (yK wr g n i (fun _=>0))/\Hid (Blk wr bT 243 #[.pointer (some ⟨gt,0,none⟩)])/\Hid (Blk wr bO 170 #[.slice (some ⟨g,0,none⟩) n n])/\Hid (Below w0.heap.size w0 wr)
def VcB (w0:World) (m n g bT bO gt:Nat) (T:ym) (iv:Value) (wr:World):Prop:=
 ∃ i:Nat,i<=m/\iv= .int .i64 i/\Hid (yK wr g n n (za2 T n i))/\Hid (Blk wr bT 243 #[.pointer (some ⟨gt,0,none⟩)])/\Hid (Blk wr bO 170 #[.slice (some ⟨g,0,none⟩) n n])/\Hid (Below w0.heap.size w0 wr)
theorem zdl (base m L:Nat) (F:zN) (T:ym) (w:World) (hT:zW base m L F w T) (hf:T.Fits m L) (hm:m<=100000) (hm0:0<m) (hL:L<=100000)
 (hb:∀ i,i<m->(2*F.nn<=T.basic i/\T.basic i<=1000000)\/∃ k,T.basic i=2*k/\k<F.nn) (hl:∀ i j,i<=m->j<F.nn->Yz 8388608 (za2 T F.nn i j)) (hv:∀ i,i<m->Yz 8388608 (Rat.divInt (T.cell i 0) T.den)):
 Calls Tryz.prog 201 #[.pointer (some ⟨F.gt,0,none⟩),.int .i64 0] w (zmo F.nn (za2 T F.nn m) w):=by
 have hnn:F.nn<=100000:=by have:=hT.cols;omega
 have hmk:=fun w=>zd0 .i64 F.nn hnn w
 have hx0:=zf w (.cells #[.pointer (some ⟨F.gt,0,none⟩)] 243)
 have HBT:=ze (Blk.new w 243 #[.pointer (some ⟨F.gt,0,none⟩)])
 have HT0:=ze hT
 have HF:=ze hf
 have HB:=ze hb
 have HL:=ze hl
 have HV:=ze hv
 have HW:=ze hx0
 have c2:=(hT.below hx0).cell2
 clear hT hf hb hl hv hx0
 go_enter Tryz.func201,Tryz.ntmps201
 go_upto_region 1 with fail
 generalize w.alloc (.cells #[.pointer (some ⟨F.gt,0,none⟩)] 243)=W1 at HBT HW c2 |-
 have HBL:Hid (w.heap.size<=w.heap.size):=Nat.le_refl _
 generalize hbT:w.heap.size=bT at HBT |-
 have HBTL:Hid (w.heap.size<=bT):=Nat.le_of_eq hbT
 clear hbT HBL
 have b0:=HBT.out.cell 0
 simp at b0
 go_upto_region 2 with fail
 have hx:=ext (zf W1 (.cells (x8 F.nn) 111)) (zf _ (.cells #[.slice (some ⟨W1.heap.size,0,none⟩) F.nn F.nn] 170))
 have hr0:=(zf0 W1 F.nn (fun _=>0)).below (zf _ (.cells #[.slice (some ⟨W1.heap.size,0,none⟩) F.nn F.nn] 170))
 have hbo:=Blk.new (W1.alloc (.cells (x8 F.nn) 111)) 170 #[.slice (some ⟨W1.heap.size,0,none⟩) F.nn F.nn]
 simp only [World.size_alloc] at hbo
 have HR:=ze hr0
 have HBO:=ze hbo
 replace HBT:=kb_ HBT hx
 have HG:Hid (w.heap.size<=W1.heap.size):=HW.out.size
 replace HW:=eb_ HW hx
 clear hx hr0 hbo hmk c2 b0
 generalize (W1.alloc (.cells (x8 F.nn) 111)).alloc (.cells #[.slice (some ⟨W1.heap.size,0,none⟩) F.nn F.nn] 170)=W3 at HR HBO HBT HW |-
 obtain ⟨bO,hbO⟩:∃ bO,bO=W1.heap.size+1:=⟨_,rfl⟩
 rw [<- hbO] at HBO |-
 have HGO:Hid (W1.heap.size≠bO):=by show _≠_;omega
 clear hbO
 generalize W1.heap.size=g at HR HBO HG HGO |-
 have o0:=HBO.out.cell 0
 simp at o0
 go_wp2_with fail
 clear o0
 go_loopw [18] (VcA w F.nn g bT bO F.gt) (fun iv _=>F.nn - (intOf iv).toNat)
 case atStart=>exact ⟨0,Nat.zero_le _,rfl,HR,HBT,HBO,HW⟩
 case round=>
  clear HR HBT HBO HW
  obtain ⟨i,hi,rfl,HR,HBT,HBO,HW⟩:=hrel
  by_cases hil:i<F.nn
  . have hii:(i:Int)<(F.nn:Int):=by omega
    have o0:=HBO.out.cell 0;simp at o0;have oL:=HBO.out.lt
    go_upto_region 5 with fail
    refine zq (S:=fun w' =>Hid (Below wr.heap.size wr w')/\w'.cell? ⟨bO,0,none⟩=some (.slice (some ⟨g,0,none⟩) F.nn F.nn)) 2 2 4 rfl (by kernel_rfl) (by kernel_rfl) (by kernel_rfl) rfl (zl (zz wr) (fun hB=>zh hB oL o0)) ?_ (fun hHeld=>?_)
    . intro _ _ _ _ _ h9;exact h9
    simp only [List.take_succ_cons,List.take_zero]
    iterate 2 (refine zD (v:=?_) ?_ ?_;rotate_left;(focus (as_aux_lemma=>(intro w9 hSw;(try dsimp only at hSw);go_split_ands;go_simp;try with_reducible rfl)));try simp only [Act.put,List.setIfInBounds_toArray,List.set_cons_zero,List.set_cons_succ])
    refine zI ?_;refine HH.ready (rs:=[2]) (by kernel_rfl) (by simp) (by kernel_rfl) ?_;refine zu.cons (o:=_) rfl (fun K hK=>?_) zu.nil
    go_simp
    go_at_call 137;refine (zcr 0 _ (by omega) (by omega)).mono ?_;rintro e w1 ⟨v,rfl,hvv,hb1⟩;have HX:=ze hvv;clear hvv;have hH0:=hHeld;clear hHeld;refine hK.out _ _ (zl (zt hb1 hH0.1) (fun hB=>zh hB oL o0)) (fun hHeld=>?_);clear hH0 hK K
    try simp only [Act.put,List.setIfInBounds_toArray,List.set_cons_zero,List.set_cons_succ]
    clear hb1;refine HH.take 3 (oi:=_) (v:=?_) rfl (by kernel_rfl) (by kernel_rfl) (by kernel_rfl) (fun _ _ _ h=>h) (Or.inl ⟨by rfl,?_⟩) ‹_› ?_;rotate_left
    . (intro w9 hSw;(try dsimp only at hSw);go_split_ands;go_simp;try with_reducible rfl)
    try simp only [Act.put,List.getElem_toArray,List.getElem_cons_succ,List.getElem_cons_zero,List.setIfInBounds_toArray,List.set_cons_zero,List.set_cons_succ]
    clear o0 oL;have HBY:=(hHeld.1).out
    try clear t0 tL o0 oL
    replace HR:=ze (yK.below HR.out HBY);replace HBT:=kb_ HBT HBY;replace HBO:=kb_ HBO HBY;replace HW:=eb_ HW HBY;clear HBY hHeld;refine HH.done (by kernel_rfl) ?_;simp only [List.drop_succ_cons,List.drop_zero];obtain ⟨t0,tL⟩:=zp9 HBT.out;obtain ⟨o0,oL⟩:=zp9 HBO.out;clear t0 tL o0 oL;obtain ⟨x,A,k,c,s,y,B,k',c',t,rfl,hv1,hv2⟩:=HX.out;obtain ⟨u0,u1,u2,u3,u4,u5,s0,s1,s2,s3,s4,s5⟩:=HR.out.slots hil;have f0:=HR.out.frozen (i*6);have f1:=HR.out.frozen (i*6+1);have f2:=HR.out.frozen (i*6+2);have f3:=HR.out.frozen (i*6+3);have f4:=HR.out.frozen (i*6+4);have f5:=HR.out.frozen (i*6+5);have hcn:=Y0 (w:=w1) (g:=g) (k:=i) (x:=x) (s:=s) (A:=A) (n:=k) (c:=c) (y:=y) (t:=t) (B:=B) (n' :=k') (c' :=c')
    have HR2:Hid (yK (World.ratAt w1 g i x A k c s y B k' c' t) g F.nn (i+1) (fun _=>0)):=HR.out.set hil HX.out (fun j hj=>by
     by_cases e:j=i
     . exact .inl ⟨e,rfl⟩
     . exact .inr ⟨e,by omega,rfl⟩)
    have hnt:∀ t cs,Blk w1 bT t cs->t≠111->¬ bT=g:=fun t cs h hne e=>by
     subst e;obtain ⟨cs',k1⟩:=HR.out.heap;exact xo h k1 hne rfl
    have HBT2:=ze (hcn.blk HBT.out (hnt _ _ HBT.out (by decide)));have HBO2:=ze (hcn.blk HBO.out (by have:=HGO.out;omega));have HW2:=ze (Xk HW.out hcn HG.out);clear HR HBT HBO HW hcn hv1 hv2 HX hnt;go_wp2_with fail;go_roundw
    case rel=>first | exact ⟨i+1,by omega,by go_num,HR2,HBT2,HBO2,HW2⟩ | ((repeat apply Exists.intro);exact ⟨⟨i+1,by omega,by go_num,HR2,HBT2,HBO2,HW2⟩,rfl⟩)
    case measure=>simp [intOf];omega
  . obtain rfl:F.nn=i:=by omega
    skip
    have b0:=HBT.out.cell 0;simp at b0;obtain ⟨gb,cb,ebv,hgb,hbc⟩:=HT0.out.basics hm0;have t7:=(HT0.out.below HW.out).cell7;rw [ebv] at t7;have HBC:=ze (fun wr (h:Below w.heap.size w wr) i (hi:i<m)=>(h.cell (p:=⟨gb,i,none⟩) hgb).trans (hbc i hi));clear hgb hbc;go_wp2_with fail;clear b0 t7
    go_loopw [32] (VcB w m F.nn g bT bO F.gt T) (fun iv _=>m - (intOf iv).toNat)
    case atStart=>exact ⟨0,Nat.zero_le _,rfl,HR,HBT,HBO,HW⟩
    case round=>
     clear HR HBT HBO HW;obtain ⟨i,hi,rfl,HR,HBT,HBO,HW⟩:=hrel
     by_cases him:i<m
     . have hii:(i:Int)<(m:Int):=by omega
       have hi1:(i:Int)<(m:Int)+1:=by omega
       have HT:=ze (HT0.out.below HW.out);have p1:=HBC.out _ HW.out i him;have h2:=HT0.out.lt2;have t0:=HBT.out.cell 0;simp at t0;have t3:=HT.out.cell3;have t4:=HT.out.mat.cell (i:=i) (by omega);obtain ⟨ax,aA,an,ac,ag,a0,a1,a2,ha⟩:=HT.out.mat.at_ (i:=i) (k:=0) (by omega) (by omega);simp only [Nat.zero_mul,Nat.zero_add] at a0 a1 a2;have hL0:0<L:=by omega
       have bL:=HBT.out.lt;have tL:=HT.out.lt;have mL:=HT.out.mat.lt.2;have aL:=(HT.out.mat.rows i (by omega)).2.lt;have HA:=ze ha;have HFC:=ze (HF.out.cell i 0 (by omega) (by omega));have HD0:Hid (T.den≠0):=by have:=HF.out.den;show _≠_;omega
       clear ha
       go_upto_region 11 with fail
       clear p1;have HBT1:=HBT;clear HBT;refine zq (S:=fun w' =>Hid (Below wr.heap.size wr w')/\w'.cell? ⟨bT,0,none⟩=some (.pointer (some ⟨F.gt,0,none⟩))/\w'.cell? ⟨F.gt,3,none⟩=some (.slice (some ⟨F.gm,0,none⟩) (m+1) F.cm)/\w'.cell? ⟨F.gm,i,none⟩=some (.slice (some ⟨F.g i,0,none⟩) L L)/\w'.cell? ⟨F.g i,0,none⟩=some (.int .i64 ax)/\w'.cell? ⟨F.g i,1,none⟩=some (.slice aA an ac)/\w'.cell? ⟨F.g i,2,none⟩=some (.bool ag)) 13 1 14 rfl (by kernel_rfl) (by kernel_rfl) (by kernel_rfl) rfl (zl (zz wr) (fun hB=>⟨zh hB bL t0,zh hB tL t3,zh hB mL t4,zh hB aL a0,zh hB aL a1,zh hB aL a2⟩)) ?_ (fun hHeld=>?_)
       . intro _ _ _ _ _ h9;exact h9
       simp only [List.take_succ_cons,List.take_zero]
       iterate 13 (refine zD (v:=?_) ?_ ?_;rotate_left;(focus (as_aux_lemma=>(intro w9 hSw;(try dsimp only at hSw);go_split_ands;go_simp;try with_reducible rfl)));try simp only [Act.put,List.setIfInBounds_toArray,List.set_cons_zero,List.set_cons_succ])
       refine zI ?_;refine HH.ready (rs:=[13]) (by kernel_rfl) (by simp) (by kernel_rfl) ?_;refine zu.cons (o:=_) rfl (fun K hK=>?_) zu.nil
       go_simp
       go_at_call 238;refine (zez base m L F T _ _ _ (HT.out.below hHeld.1.out) (HA.out.below hHeld.1.out) (HFC.out.le2 (by omega)) HF.out.fden HD0.out).mono ?_;rintro e w1 ⟨v,rfl,hvv,hb1⟩;have HX:=ze hvv;clear hvv;have HBT:=ze (HBT1.out.below (ext hHeld.1.out hb1) HBT1.out.lt);have hH0:=hHeld;clear hHeld;refine hK.out _ _ (zl (zt hb1 hH0.1) (fun hB=>⟨zh hB bL t0,zh hB tL t3,zh hB mL t4,zh hB aL a0,zh hB aL a1,zh hB aL a2⟩)) (fun hHeld=>?_);clear hH0 hK K
       try simp only [Act.put,List.setIfInBounds_toArray,List.set_cons_zero,List.set_cons_succ]
       clear hb1;have HBY:=(hHeld.1).out
       try clear o0 oL
       replace HR:=ze (yK.below HR.out HBY);replace HBO:=kb_ HBO HBY;replace HW:=eb_ HW HBY;replace HT:=ze (zW.below HT.out HBY);clear HBY hHeld;refine HH.done (by kernel_rfl) ?_;simp only [List.drop_succ_cons,List.drop_zero];obtain ⟨o0,oL⟩:=zp9 HBO.out;clear hL0 t0 t3 t4 a0 a1 a2 bL tL mL aL HA HFC HD0 h2 oL o0;have hput:=HB.out i him;have hb0:=HBT.out.cell 0;have ho0:=HBO.out.cell 0;simp at hb0 ho0
       have hpc:Calls Tryz.prog 237 #[.int .i64 (T.basic i:Nat),v,.pointer (some ⟨bT,0,none⟩),.pointer (some ⟨bO,0,none⟩)] w1 (zeo g F.nn (za2 T F.nn (i+1)) w1):=by
        rcases hput with ⟨h1,h2⟩ | ⟨k,h1,h2⟩
        . have e:za2 T F.nn (i+1)=za2 T F.nn i:=by
           funext j
           show (if T.basic i<2*F.nn/\j=T.basic i / 2 then _ else _)=_
           rw [if_neg (by omega)]
          rw [e];exact zip base m L F T bT bO g (T.basic i) _ v _ w1 HT.out hb0 HR.out HX.out h1 h2
        . have e:za2 T F.nn (i+1)=fun j=>if j=k then za2 T F.nn i j+Rat.divInt (T.cell i 0) T.den else za2 T F.nn i j:=by
           funext j
           show (if T.basic i<2*F.nn/\j=T.basic i / 2 then _ else _)=_
           by_cases ej:j=k
           . rw [if_pos (by omega),if_pos ej]
           . rw [if_neg (by omega),if_neg ej]
          rw [e];exact zim base m L F T bT bO g k (T.basic i) _ v _ w1 HT.out hb0 ho0 HR.out HX.out h1 h2 hnn (HL.out i k (by omega) h2) (HV.out i him)
       have HPC:=ze hpc;clear hput hb0 ho0 hpc HX
       have hnt:∀ t cs,Blk w1 bT t cs->t≠111->¬ bT=g:=fun t cs h hne e=>by
        subst e;obtain ⟨cs',k1⟩:=HR.out.heap;exact xo h k1 hne rfl
       have HNT:=ze (hnt _ _ HBT.out (by decide));clear hnt HR HT;go_wp2_with fail;refine HPC.out.mono ?_;rintro e w2 ⟨rfl,hr2,hc2⟩;have HR:=ze hr2;replace HBT:=ze (hc2.blk HBT.out HNT.out);replace HBO:=ze (hc2.blk HBO.out (by have:=HGO.out;omega));replace HW:=ze (Xk HW.out hc2 HG.out);clear hr2 hc2 HPC HNT;go_wp2_with fail;go_roundw
       case rel=>first | exact ⟨i+1,by omega,by go_num,HR,HBT,HBO,HW⟩ | ((repeat apply Exists.intro);exact ⟨⟨i+1,by omega,by go_num,HR,HBT,HBO,HW⟩,rfl⟩)
       case measure=>simp [intOf];omega
     . obtain rfl:m=i:=by omega
       have o0:=HBO.out.cell 0;simp at o0;go_wp2_with fail;go_ret;exact ⟨g,rfl,HR.out,HW.out⟩
end Go.Proofs.YtnpbflhjglkokaaGreatDoor
