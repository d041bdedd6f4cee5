/- Parts of the proof: memory, numbers, walks of the functions that are called. -/
import Derived.Test.YtacfcmdlgebhgaaGreatMg16
import Derived.Test.YtacfcmdlgebhgaaGreatMg29
set_option linter.unusedVariables false
set_option linter.unusedSimpArgs false
set_option maxRecDepth 100000
set_option maxHeartbeats 32000000
namespace Go.Proofs.YtacfcmdlgebhgaaGreat
open Go.RowKit Go.Deep
attribute [local go_sem ↓] Go.wp_at_zero Go.wp_at_succ
theorem XF (va vb:Value) (x y:Rat) (w:World) (ha:xu w va x) (hb:xu w vb y) (hx:Vz 8388608 x) (hy:Vz 8388608 y):
 Calls Tryz.prog 33 #[va,vb] w (Yg w (x - y)):=by
 have HEQ:=ze (Rat.sub_eq_add_neg x y)
 have HX0:=ze ha
 have HY0:=ze hb
 obtain ⟨g1,A1,n1,c1,B1,m1,d1,rfl,hg1,ha1,ha2⟩:=ha
 obtain ⟨g2,A2,n2,c2,B2,m2,d2,rfl,hg2,hb1,hb2⟩:=hb
 have HX:=ze hx
 have HY:=ze hy.neg
 clear ha1 ha2 hb1 hb2 hx hy hg1 hg2
 have h1:=zg w (.cells #[.bool g1,.slice A1 n1 c1,.slice B1 m1 d1] 63)
 have k1:=Blk.new w 63 #[.bool g1,.slice A1 n1 c1,.slice B1 m1 d1]
 have h2:=zg (w.alloc (.cells #[.bool g1,.slice A1 n1 c1,.slice B1 m1 d1] 63)) (.cells #[.bool g2,.slice A2 n2 c2,.slice B2 m2 d2] 63)
 have k2:=Blk.new (w.alloc (.cells #[.bool g1,.slice A1 n1 c1,.slice B1 m1 d1] 63)) 63 #[.bool g2,.slice A2 n2 c2,.slice B2 m2 d2]
 have h3:=zg ((w.alloc (.cells #[.bool g1,.slice A1 n1 c1,.slice B1 m1 d1] 63)).alloc (.cells #[.bool g2,.slice A2 n2 c2,.slice B2 m2 d2] 63)) (.cells #[.bool false,.slice none 0 0,.slice none 0 0] 63)
 have k3:=Blk.new ((w.alloc (.cells #[.bool g1,.slice A1 n1 c1,.slice B1 m1 d1] 63)).alloc (.cells #[.bool g2,.slice A2 n2 c2,.slice B2 m2 d2] 63)) 63 #[.bool false,.slice none 0 0,.slice none 0 0]
 have HK1:=ze ((k1.below h2 k1.lt).below h3 (k1.below h2 k1.lt).lt)
 have HK2:=ze (k2.below h3 k2.lt)
 have HK3:=ze k3
 have HW:=ze (ext (ext h1 h2) h3)
 clear h1 k1 h2 k2 h3 k3
 simp only [World.size_alloc] at HK1 HK2 HK3
 go_enter Tryz.func33,Tryz.ntmps33
 go_wp2_with fail
 generalize ((w.alloc (.cells #[.bool g1,.slice A1 n1 c1,.slice B1 m1 d1] 63)).alloc (.cells #[.bool g2,.slice A2 n2 c2,.slice B2 m2 d2] 63)).alloc (.cells #[.bool false,.slice none 0 0,.slice none 0 0] 63)=WN at HK1 HK2 HK3 HW |-
 obtain ⟨a0,a1,a2,aL⟩:=zyb HK1.out
 obtain ⟨b0,b1,b2,bL⟩:=zyb HK2.out
 obtain ⟨r0,r1,r2,rL⟩:=zyb HK3.out
 refine yg (S:=fun w' =>Hid (Below WN.heap.size WN w')/\w'.cell? ⟨w.heap.size,0,none⟩=some (.bool g1)/\w'.cell? ⟨w.heap.size,1,none⟩=some (.slice A1 n1 c1)/\w'.cell? ⟨w.heap.size,2,none⟩=some (.slice B1 m1 d1)/\w'.cell? ⟨w.heap.size+1,0,none⟩=some (.bool g2)/\w'.cell? ⟨w.heap.size+1,1,none⟩=some (.slice A2 n2 c2)/\w'.cell? ⟨w.heap.size+1,2,none⟩=some (.slice B2 m2 d2)) 2 2 4 rfl (by kernel_rfl) (by kernel_rfl) (by kernel_rfl) rfl (zx (z8 WN) (fun hB=>⟨zk hB aL a0,zk hB aL a1,zk hB aL a2,zk hB bL b0,zk hB bL b1,zk hB bL b2⟩)) ?_ (fun hHeld=>?_)
 . intro _ _ _ _ _ h9;exact h9
 simp only [List.take_succ_cons,List.take_zero]
 iterate 2 (refine xz (v:=?_) ?_ ?_;rotate_left;(focus (as_aux_lemma=>(intro w9 hSw;(try dsimp only at hSw);go_split_ands;go_simp;try with_reducible rfl)));try simp only [Act.put,List.setIfInBounds_toArray,List.set_cons_zero,List.set_cons_succ])
 refine vk ?_
 refine HH.ready (rs:=[2]) (by kernel_rfl) (by simp) (by kernel_rfl) ?_
 refine zT.cons (o:=_) rfl (fun K hK=>?_) zT.nil
 go_simp
 go_at_call 59
 refine (VY _ y _ (HY0.out.below (ext HW.out (z8 WN).out))).mono ?_
 rintro e w1 ⟨v1,rfl,hv1,hb1⟩
 have HM1:=ze hv1
 clear hv1
 have hH0:=hHeld
 clear hHeld
 refine hK.out _ _ (zx (zu hb1 hH0.1) (fun hB=>⟨zk hB aL a0,zk hB aL a1,zk hB aL a2,zk hB bL b0,zk hB bL b1,zk hB bL b2⟩)) (fun hHeld=>?_)
 clear hH0 hK K
 try simp only [Act.put,List.setIfInBounds_toArray,List.set_cons_zero,List.set_cons_succ]
 refine HH.ready (rs:=[3]) (by kernel_rfl) (by simp) (by kernel_rfl) ?_
 refine zT.cons (o:=_) rfl (fun K hK=>?_) zT.nil
 go_simp
 go_at_call 31
 refine (vz _ _ x (-y) _ (HX0.out.below (ext HW.out hHeld.1.out)) HM1.out HX.out HY.out).mono ?_
 rintro e w2 ⟨v2,rfl,hv2,hb2⟩
 have hH0:=hHeld
 clear hHeld
 refine hK.out _ _ (zx (zu hb2 hH0.1) (fun hB=>⟨zk hB aL a0,zk hB aL a1,zk hB aL a2,zk hB bL b0,zk hB bL b1,zk hB bL b2⟩)) (fun hHeld=>?_)
 clear hH0 hK K
 try simp only [Act.put,List.setIfInBounds_toArray,List.set_cons_zero,List.set_cons_succ]
 have HBY:=(hHeld.1).out
 try clear a0 a1 a2 aL b0 b1 b2 bL r0 r1 r2 rL
 replace HK1:=kb_ HK1 HBY
 replace HK2:=kb_ HK2 HBY
 replace HK3:=kb_ HK3 HBY
 replace HW:=eb_ HW HBY
 clear HBY hHeld
 refine HH.done (by kernel_rfl) ?_
 simp only [List.drop_succ_cons,List.drop_zero]
 obtain ⟨a0,a1,a2,aL⟩:=zyb HK1.out
 obtain ⟨b0,b1,b2,bL⟩:=zyb HK2.out
 obtain ⟨r0,r1,r2,rL⟩:=zyb HK3.out
 have f0:=HK3.out.frozen 0
 have f1:=HK3.out.frozen 1
 have f2:=HK3.out.frozen 2
 obtain ⟨g5,A5,n5,c5,B5,m5,d5,rfl,hq0,hq1,hq2⟩:=hv2
 have HQ0:=ze hq0
 have HQ1:=ze hq1
 have HQ2:=ze hq2
 clear hq0 hq1 hq2
 go_wp2_with fail
 have kR2:=yL (ng:=g5) (A:=A5) (n:=n5) (c:=c5) (B:=B5) (m:=m5) (d:=d5) HK3.out
 have hR1:=zU (ng:=g5) (A:=A5) (n:=n5) (c:=c5) (B:=B5) (m:=m5) (d:=d5) HQ1.out HK3.out
 have hR2:=zU (ng:=g5) (A:=A5) (n:=n5) (c:=c5) (B:=B5) (m:=m5) (d:=d5) HQ2.out HK3.out
 have e0:=kR2.cell 0
 have e1:=kR2.cell 1
 have e2:=kR2.cell 2
 simp only [World.ref] at e0 e1 e2
 simp at e0 e1 e2
 refine bodyPost_ret (v:=.agg #[.bool g5,.slice A5 n5 c5,.slice B5 m5 d5]) (by simp [results,Tryz.results33,go_sem,e0,e1,e2]) rfl ?_
 exact ⟨_,rfl,by rw [HEQ.out];exact ⟨_,_,_,_,_,_,_,rfl,HQ0.out,hR1,hR2⟩,zZ HW.out (by omega)⟩
def zzm (u:Nat) (w:World) (uv ov:Value) (wr:World):Prop:=
 ∃ (r:Nat) (O:List Nat),uv= .int .u64 r/\Hid (r<=u/\val 1000000000 O+r*1000000000 ^ O.length=u)/\Hid (zE 1000000000 O)/\Hid (r=0->yW 1000000000 O)/\Hid (wr.ownsRow w.heap.size 3 1 ov O.length (ZX O))/\Hid (Below w.heap.size w wr)
theorem zzm.step {u r:Nat} {O:List Nat} (h:val 1000000000 O+r*1000000000 ^ O.length=u):val 1000000000 (O ++ [r % 1000000000])+r / 1000000000*1000000000 ^ (O ++ [r % 1000000000]).length=u:=by
 rw [Yc,List.length_append,List.length_singleton,Nat.pow_succ, <- h]
 have h1:=Nat.div_add_mod r 1000000000
 generalize 1000000000 ^ O.length=X
 have h2:r*X=(1000000000*(r / 1000000000)+r % 1000000000)*X:=by rw [h1]
 rw [h2,Nat.add_mul,Nat.mul_comm X 1000000000, <- Nat.mul_assoc,Nat.mul_comm (r / 1000000000) 1000000000,Nat.mul_comm X (r % 1000000000)]
 omega
theorem zta {u r:Nat} {O:List Nat} (h:val 1000000000 O+r*1000000000 ^ O.length=u) (hu:u<18446744073709551616) (hr:0<r):O.length<=2:=by
 apply Classical.byContradiction
 intro hn
 have h1:1000000000 ^ 3<=1000000000 ^ O.length:=Nat.pow_le_pow_right (by omega) (by omega)
 have h2:=Nat.mul_le_mul hr h1
 omega
theorem zkl (u:Nat) (w:World) (hu:u<18446744073709551616):Calls Tryz.prog 60 #[.int .u64 (u:Int)] w (zgq w u):=by
 obtain ⟨i0,hi0,hz0,hz1,hz2⟩:=info_parts zba
 have HU:=ze hu
 clear hu
 go_enter Tryz.func60,Tryz.ntmps60
 go_wp2_with fail
 go_loopw [0,3] (zzm u w) (fun uv _ _=>(intOf uv).toNat)
 case atStart=>exact ⟨u,[],rfl,⟨Nat.le_refl _,by simp [val]⟩,zE.nil _,fun _=>yW.nil _,World.ownsRow_nil _ _ _ _,zP _⟩
 case round=>
  obtain ⟨r,O,rfl,HV,HS,HC,HO,HB⟩:=hrel
  have hrb:r<18446744073709551616:=Nat.lt_of_le_of_lt HV.out.1 HU.out
  by_cases h0:0<r
  rotate_left
  . obtain rfl:r=0:=by omega
    obtain ⟨A,c,rfl,h2,h3,h4⟩:=za8 HO.out;have HR:=ze h4;have hv:=HV.out.2;rw [Nat.zero_mul,Nat.add_zero] at hv;have HVV:=ze hv;have HCC:=ze (HC.out rfl);clear h4 hv;go_wp2_with fail;go_ret;exact ⟨_,rfl,⟨A,c,O,rfl,h2,h3,HR.out,HCC.out,HVV.out⟩,HB.out⟩
  have hol:=zta HV.out.2 HU.out h0
  have hd1:(r % 1000000000:Nat)<1000000000:=Nat.mod_lt _ (by omega);have hrd:=xM wr 3 (.int .i64 ((r:Int) % 1000000000))
  have h1c:∀ v∈[Value.int .i64 ((r:Int) % 1000000000)],v.oneCell' =true:=by
   intro v hv;rw [List.mem_singleton] at hv;subst hv;rfl
  have hrI:(0:Int)<(r:Int):=by omega
  go_wp2_with (at_builtin;refine zO _ rfl (.tmp 6) (.tmp 10) _ rfl w.heap.size 3 i0 _ 1 8 Tryz.underlying29 hi0 hz0 hz1 hz2 rfl (by omega) _ O.length (ZX O) rfl (HO.out.alloc _) _ (some ⟨wr.heap.size,0,none⟩) 1 1 _ rfl hrd h1c ?o2 ?o3 ?o4 ?_)
  case o2=>unfold maxLen;omega
  case o3=>omega
  case o4=>have:=HB.out.size;simp;omega
  intro v3 w3 hown3 hgr3 hat3;have HO3:=ze hown3;have HB3:Hid (Below w.heap.size w w3):=ze ((HB.out.alloc HB.out.size _).grown hgr3 (by have:=HB.out.size;simp;omega) (fun k hk=>(HO.out.lt k hk).1));clear hown3 hgr3 hat3 hrd h1c;go_wp2_with fail;go_roundw
  case rel=>
   refine ⟨r / 1000000000,O ++ [r % 1000000000],by go_num,⟨Nat.le_trans (Nat.div_le_self _ _) HV.out.1,zzm.step HV.out.2⟩,HS.out.append (zE.cons hd1 (zE.nil _)),fun h=>?_,?_,HB3.out⟩
   rotate_left
   . rw [List.length_append,zaj]
     exact HO3.out
   refine yW.mk_ (HS.out.append (zE.cons hd1 (zE.nil _))) (fun _=>?_)
   simp
   omega
  case measure=>simp [intOf];omega
theorem zgz (u:Nat) (w:World) (hu:u<9223372036854775808):Calls Tryz.prog 30 #[.int .i64 (u:Int)] w (Yg w (u:Rat)):=by
 have hs:=fun w=>zkl u w (by omega)
 have hX:=zg w (.cells #[.bool false,.slice none 0 0,.slice none 0 0] 63)
 have HKR:=ze (Blk.new w 63 #[.bool false,.slice none 0 0,.slice none 0 0])
 have HW:=ze hX
 clear hX
 go_enter Tryz.func30,Tryz.ntmps30
 go_wp2_with fail
 refine (hs _).mono ?_
 rintro e w1 ⟨v,rfl,hv,hb1⟩
 have hx:=zg w1 (.cells #[.int .i64 1] 3)
 have h1:=zaa w1 (d:=1) (by omega) (by omega)
 have H0:=ze (z9.below hv hx)
 have H1:=ze h1
 have HK:=ze (HKR.out.below (ext hb1 hx) HKR.out.lt)
 have HWW:=ze (ext HW.out (ext hb1 hx))
 obtain ⟨A,n,c,rfl⟩:∃ A n c,v= .slice A n c:=by obtain ⟨A,c,ds,rfl,_⟩:=hv;exact ⟨_,_,_,rfl⟩
 have r0:=HK.out.cell 0
 have r1:=HK.out.cell 1
 have r2:=HK.out.cell 2
 have f0:=HK.out.frozen 0
 have f1:=HK.out.frozen 1
 have f2:=HK.out.frozen 2
 have lR:=HK.out.lt
 simp at r0 r1 r2
 clear hb1 h1 hv hx hs
 go_wp2_with fail
 have kR2:=yL (ng:=false) (A:=A) (n:=n) (c:=c) (B:=some ⟨w1.heap.size,0,none⟩) (m:=1) (d:=1) HK.out
 have hR0:=zU (ng:=false) (A:=A) (n:=n) (c:=c) (B:=some ⟨w1.heap.size,0,none⟩) (m:=1) (d:=1) H0.out HK.out
 have hR1:=zU (ng:=false) (A:=A) (n:=n) (c:=c) (B:=some ⟨w1.heap.size,0,none⟩) (m:=1) (d:=1) H1.out HK.out
 have e0:=kR2.cell 0
 have e1:=kR2.cell 1
 have e2:=kR2.cell 2
 simp only [World.ref] at e0 e1 e2
 simp at e0 e1 e2
 refine bodyPost_ret (v:=.agg #[.bool false,.slice A n c,.slice (some ⟨w1.heap.size,0,none⟩) 1 1]) (by simp [results,Tryz.results30,go_sem,e0,e1,e2]) rfl ?_
 have hn:((u:Rat)).num=(u:Int):=rfl
 exact ⟨_,rfl,⟨_,_,_,_,_,_,_,rfl,(decide_eq_false (by rw [hn];omega)).symm,by rw [hn];exact hR0,hR1⟩,zZ (w:=w) (g:=w.heap.size) HWW.out (Nat.le_refl _)⟩
theorem zch (w:World):Calls Tryz.prog 30 #[.int .i64 0] w (Yg w 0):=zgz 0 w (by omega)
theorem zb0 (w:World):Calls Tryz.prog 30 #[.int .i64 1] w (Yg w 1):=zgz 1 w (by omega)
def hdr (L g:Nat):Value:=.slice (some ⟨g,0,none⟩) L L
theorem zhc (L g:Nat):zkq (hdr L g):=Z8 _ _ _
structure xV (base:Nat) (w:World) (mv:Value) (L m:Nat) (g:Nat->Nat) (A:Nat->Nat->Rat):Prop where
 own:zkj w base 57 1 mv m ((List.range m).map fun i=>hdr L (g i))
 inj:∀ i j,i<m->j<m->g i=g j->i=j
 rows:∀ i,i<m->base<=g i/\vy w (g i) L L (A i)
theorem zn9 {w:World} {base m size L n:Nat} {v:Value} {xs:List Value} {f:Nat->Rat} {g:Nat} (h:zkj w base 57 size v m xs) (hr:vy w g L n f):v.ownBlock≠some g:=by
 intro e
 rcases h.1.2 with ⟨rfl,_⟩ | ⟨g',cap,cur,rfl,_,hg,_⟩
 . cases e
 . obtain rfl:g' =g:=by simpa [Value.ownBlock] using e
   obtain ⟨⟨cs,hb,_⟩,_⟩:=hr;unfold Blk at hb;rw [hg] at hb;injection hb with hb
   injection hb with _ h2 _
   exact absurd h2 (by decide)
section
variable {S:Nat->Prop} {w w' :World} {base L m:Nat} {mv:Value} {g:Nat->Nat} {A:Nat->Nat->Rat}
theorem xV.chg (h:xV base w mv L m g A) (hc:Chg S w w') (h1:∀ i,i<m->¬ S (g i)) (h2:∀ b,mv.ownBlock=some b->¬ S b) (hS:∀ b,S b->YO w b):xV base w' mv L m g A:=
 ⟨h.own.chg hc h2,h.inj,fun i hi=>⟨(h.rows i hi).1,(h.rows i hi).2.chg hc (h1 i hi) hS⟩⟩
theorem xV.below (h:xV base w mv L m g A) (hb:Below w.heap.size w w'):xV base w' mv L m g A:=
 h.chg (S:=fun _=>False) (Chg.of_below hb) (fun _ _ h=>h) (fun _ _ h=>h) (fun _ h=>h.elim)
theorem xV.nil (base:Nat) (w:World) (L:Nat) (g:Nat->Nat) (A:Nat->Nat->Rat):xV base w (.slice none 0 0) L 0 g A:=
 ⟨zna _ _ _ _,fun i j hi=>by omega,fun i hi=>by omega⟩
theorem xV.form (h:xV base w mv L m g A) (hm:0<m):∃ gm cap,mv= .slice (some ⟨gm,0,none⟩) m cap/\base<=gm/\gm<w.heap.size:=by
 obtain ⟨gm,cap,e,hc,hlt⟩:=h.own.1.form hm
 subst e
 exact ⟨gm,cap,rfl,(h.own.1.lt gm rfl).1,hlt⟩
end
section
variable {w w' :World} {base L m gm cap:Nat} {g:Nat->Nat} {A:Nat->Nat->Rat}
theorem xV.cell (h:xV base w (.slice (some ⟨gm,0,none⟩) m cap) L m g A) {i:Nat} (hi:i<m):w.cell? ⟨gm,i,none⟩=some (.slice (some ⟨g i,0,none⟩) L L):=by
 rw [h.own.1.cellAt i (by omega)]
 simp [hi,hdr]
theorem xV.frozen (h:xV base w (.slice (some ⟨gm,0,none⟩) m cap) L m g A) (i:Nat):w.frozen? ⟨gm,i,none⟩=false:=h.own.1.frozenAt i
theorem xV.lt (h:xV base w (.slice (some ⟨gm,0,none⟩) m cap) L m g A):base<=gm/\gm<w.heap.size:=h.own.1.lt gm rfl
theorem xV.ne (h:xV base w (.slice (some ⟨gm,0,none⟩) m cap) L m g A) {i:Nat} (hi:i<m):gm≠g i:=fun e=>zn9 h.own (h.rows i hi).2 (by rw [<- e];rfl)
theorem xV.set {i k:Nat} {q:Rat} {A' :Nat->Nat->Rat} {ng:Bool} {X Y:Option Addr} {n1 c n2 d:Nat} (h:xV base w (.slice (some ⟨gm,0,none⟩) m cap) L m g A) (hi:i<m) (hk:k<L)
 (hv:xu w (.agg #[.bool ng,.slice X n1 c,.slice Y n2 d]) q) (hA:∀ i' k',A' i' k' =if i' =i/\k' =k then q else A i' k'):
 xV base (World.refAt w (g i) k ng X n1 c Y n2 d) (.slice (some ⟨gm,0,none⟩) m cap) L m g A' :=by
 have hc:=YC (w:=w) (g:=g i) (k:=k) (ng:=ng) (A:=X) (n:=n1) (c:=c) (B:=Y) (m:=n2) (d:=d)
 have hS:∀ b,b=g i->YO w b:=fun b e=>by subst e;exact (h.rows i hi).2.noI64
 refine ⟨h.own.chg hc (fun b hb e=>?_),h.inj,fun j hj=>⟨(h.rows j hj).1,?_⟩⟩
 . have:gm=b:=by simpa [Value.ownBlock] using hb
   exact h.ne hi (this.trans e)
 by_cases hji:j=i
 rotate_left
 . have e:A' j=A j:=by funext k';rw [hA,if_neg (fun h=>hji h.1)]
   rw [e];exact (h.rows j hj).2.chg hc (fun e=>hji (h.inj j i hj hi e)) hS
 subst hji
 refine (h.rows j hj).2.set hk hv fun k' hk' =>?_
 rw [hA]
 by_cases e:k' =k
 . exact .inl ⟨e,by rw [if_pos ⟨rfl,e⟩]⟩
 exact .inr ⟨e,hk',by rw [if_neg (fun h=>e h.2)]⟩
theorem xV.swap {k p:Nat} (h:xV base w (.slice (some ⟨gm,0,none⟩) m cap) L m g A) (hk:k<m) (hp:p<m):
 xV base ((w.setCell ⟨gm,p,none⟩ (.slice (some ⟨g k,0,none⟩) L L)).setCell ⟨gm,k,none⟩ (.slice (some ⟨g p,0,none⟩) L L)) (.slice (some ⟨gm,0,none⟩) m cap) L m
  (fun i=>if i=k then g p else if i=p then g k else g i) (fun i=>if i=k then A p else if i=p then A k else A i):=by
 have hc:Chg (fun b=>b=gm) w ((w.setCell ⟨gm,p,none⟩ (.slice (some ⟨g k,0,none⟩) L L)).setCell ⟨gm,k,none⟩ (.slice (some ⟨g p,0,none⟩) L L)):=
  Chg.setCell (S:=fun b=>b=gm) (Chg.setCell (S:=fun b=>b=gm) (Chg.refl w) (p:=⟨gm,p,none⟩) rfl _) (p:=⟨gm,k,none⟩) rfl _
 have hS:∀ b,b=gm->YO w b:=fun b e=>by subst e;exact h.own.2 b rfl
 have ho:=(h.own.stored p (zhc L (g k))).stored k (zhc L (g p))
 have hrow:∀ i,i<m->base<=g i/\vy _ (g i) L L (A i):=fun i hi=>⟨(h.rows i hi).1,(h.rows i hi).2.chg hc (fun e=>h.ne hi e.symm) hS⟩
 refine ⟨?_,fun i j hi hj e=>?_,fun i hi=>?_⟩
 . have e:(List.range m).map (fun i=>hdr L ((fun i=>if i=k then g p else if i=p then g k else g i) i))=(((List.range m).map fun i=>hdr L (g i)).set p (hdr L (g k))).set k (hdr L (g p)):=by
    apply List.ext_getElem?
    intro j
    rcases Nat.lt_or_ge j m with hj | hj
    . rw [List.getElem?_set,List.getElem?_set]
      by_cases h1:k=j
      . subst h1;simp [hj]
      by_cases h2:p=j
      . subst h2;simp [h1,hj,Ne.symm h1]
      simp [h1,h2,hj,Ne.symm h1,Ne.symm h2]
    . rw [List.getElem?_eq_none (by simpa using hj),List.getElem?_eq_none (by simpa using hj)]
   rw [e];exact ho
 . have hinj:=h.inj
   skip
   by_cases i1:i=k
   . by_cases j1:j=k
     . omega
     rw [if_pos i1,if_neg j1] at e
     by_cases j2:j=p
     . rw [if_pos j2] at e;have:=hinj p k hp hk e;omega
     rw [if_neg j2] at e;have:=hinj p j hp hj e;omega
   rw [if_neg i1] at e
   by_cases i2:i=p
   . rw [if_pos i2] at e
     by_cases j1:j=k
     . rw [if_pos j1] at e;have:=hinj k p hk hp e;omega
     rw [if_neg j1] at e
     by_cases j2:j=p
     . omega
     rw [if_neg j2] at e;have:=hinj k j hk hj e;omega
   rw [if_neg i2] at e
   by_cases j1:j=k
   . rw [if_pos j1] at e;have:=hinj i p hi hp e;omega
   rw [if_neg j1] at e
   by_cases j2:j=p
   . rw [if_pos j2] at e;have:=hinj i k hi hk e;omega
   rw [if_neg j2] at e;exact hinj i j hi hj e
 . skip
   by_cases i1:i=k
   . rw [if_pos i1,if_pos i1];exact hrow p hp
   rw [if_neg i1,if_neg i1]
   by_cases i2:i=p
   . rw [if_pos i2,if_pos i2];exact hrow k hk
   rw [if_neg i2,if_neg i2];exact hrow i hi
end
def xT (w:World) (v:Value) (n:Nat) (f:Nat->Rat):Prop:=
 ∃ A cap,v= .slice A n cap/\n<=cap/\cap<=maxLen/\(0<n->∃ g,A=some ⟨g,0,none⟩/\g<w.heap.size/\∀ k,k<n->zhy w g k (f k))
theorem zhy.below {w w' :World} {g k:Nat} {q:Rat} (h:zhy w g k q) (hb:Below w.heap.size w w'):zhy w' g k q:=h.chg (S:=fun _=>False) (Chg.of_below hb) (fun h=>h) (fun _ h=>h.elim)
theorem xT.below {w w' :World} {v:Value} {n:Nat} {f:Nat->Rat} (h:xT w v n f) (hb:Below w.heap.size w w'):xT w' v n f:=by
 obtain ⟨A,cap,h1,h2,h3,h4⟩:=h
 refine ⟨A,cap,h1,h2,h3,fun hn=>?_⟩
 obtain ⟨g,e,hg,hr⟩:=h4 hn
 exact ⟨g,e,Nat.lt_of_lt_of_le hg hb.size,fun k hk=>(hr k hk).below hb⟩
theorem xT.at_ {w:World} {A:Option Addr} {n cap:Nat} {f:Nat->Rat} (h:xT w (.slice A n cap) n f) {k:Nat} (hk:k<n):∃ g,A=some ⟨g,0,none⟩/\g<w.heap.size/\zhy w g k (f k):=by
 obtain ⟨A',cap',e,_,_,h4⟩:=h
 injection e with e1 e2 e3
 subst e1 e3
 obtain ⟨g,e,hg,hr⟩:=h4 (by omega)
 exact ⟨g,e,hg,hr k hk⟩
def YJ (w:World) (base:Nat) (v:Value) (n:Nat) (f:Nat->Rat):Prop:=
 ∃ xs,zkj w base 63 3 v n xs/\∀ k,k<n->∃ (ng:Bool) (A:Option Addr) (a c:Nat) (B:Option Addr) (b d:Nat),xs[k*3]?=some (.bool ng)/\xs[k*3+1]?=some (.slice A a c)/\xs[k*3+2]?=some (.slice B b d)/\
  xu w (.agg #[.bool ng,.slice A a c,.slice B b d]) (f k)
section
variable {S:Nat->Prop} {w w' :World} {base n:Nat} {v:Value} {f:Nat->Rat}
theorem YJ.chg (h:YJ w base v n f) (hc:Chg S w w') (h2:∀ b,v.ownBlock=some b->¬ S b) (hS:∀ b,S b->YO w b):YJ w' base v n f:=by
 obtain ⟨xs,h1,h3⟩:=h
 refine ⟨xs,h1.chg hc h2,fun k hk=>?_⟩
 obtain ⟨ng,A,a,c,B,b,d,e0,e1,e2,e3⟩:=h3 k hk
 exact ⟨ng,A,a,c,B,b,d,e0,e1,e2,hc.ref e3 hS⟩
theorem YJ.below (h:YJ w base v n f) (hb:Below w.heap.size w w'):YJ w' base v n f:=h.chg (S:=fun _=>False) (Chg.of_below hb) (fun _ _ h=>h) (fun _ h=>h.elim)
theorem YJ.nil (w:World) (base:Nat) (f:Nat->Rat):YJ w base (.slice none 0 0) 0 f:=⟨[],zna _ _ _ _,fun k hk=>by omega⟩
theorem YJ.nums (h:YJ w base v n f):xT w v n f:=by
 obtain ⟨xs,h1,h3⟩:=h
 rcases h1.1.2 with ⟨rfl,hn⟩ | ⟨g,cap,cur,rfl,hb,hg,hnc,hcm,hcs,ht⟩
 . subst hn
   exact ⟨none,0,rfl,Nat.le_refl _,by unfold maxLen;omega,fun h=>by omega⟩
 . refine ⟨_,cap,rfl,hnc,hcm,fun hn=>⟨g,rfl,(h1.1.lt g rfl).2,fun k hk=>?_⟩⟩
   obtain ⟨ng,A,a,c,B,b,d,e0,e1,e2,e3⟩:=h3 k hk;refine ⟨ng,A,a,c,B,b,d,?_,?_,?_,e3⟩
   . rw [h1.1.cellAt _ (by omega)];exact e0
   . rw [h1.1.cellAt _ (by omega)];exact e1
   . rw [h1.1.cellAt _ (by omega)];exact e2
theorem YJ.push {w3:World} {v3:Value} {xs:List Value} {q:Rat} {f' :Nat->Rat} {ng:Bool} {A B:Option Addr} {a c b d:Nat} (h1:zkj w base 63 3 v n xs)
 (h3:∀ k,k<n->∃ (ng:Bool) (A:Option Addr) (a c:Nat) (B:Option Addr) (b d:Nat),xs[k*3]?=some (.bool ng)/\xs[k*3+1]?=some (.slice A a c)/\xs[k*3+2]?=some (.slice B b d)/\xu w (.agg #[.bool ng,.slice A a c,.slice B b d]) (f k))
 (hown:zkj w3 base 63 3 v3 (n+1) (xs ++ [.bool ng,.slice A a c,.slice B b d])) (hg:w.grownBy w3 v.ownBlock) (hv:xu w (.agg #[.bool ng,.slice A a c,.slice B b d]) q)
 (hf:∀ k,k<n->f' k=f k) (hq:f' n=q):YJ w3 base v3 (n+1) f' :=by
 have hl:xs.length=n*3:=h1.1.1
 have hc:Chg (fun b=>v.ownBlock=some b) w w3:=⟨hg.os,hg.tape,hg.output,hg.size,fun k hk hS=>hg.block k hk (fun e=>hS e.symm)⟩
 have hS:∀ b,v.ownBlock=some b->YO w b:=h1.2
 refine ⟨_,hown,fun k hk=>?_⟩
 rcases Nat.lt_or_ge k n with h | h
 . obtain ⟨ng',A',a',c',B',b',d',e0,e1,e2,e3⟩:=h3 k h
   refine ⟨ng',A',a',c',B',b',d',?_,?_,?_,?_⟩
   . rw [List.getElem?_append_left (by omega)];exact e0
   . rw [List.getElem?_append_left (by omega)];exact e1
   . rw [List.getElem?_append_left (by omega)];exact e2
   . rw [hf k h];exact hc.ref e3 hS
 . obtain rfl:k=n:=by omega
   refine ⟨ng,A,a,c,B,b,d,?_,?_,?_,?_⟩
   . rw [List.getElem?_append_right (by omega),hl,show k*3 - k*3=0 by omega];rfl
   . rw [List.getElem?_append_right (by omega),hl,show k*3+1 - k*3=1 by omega];rfl
   . rw [List.getElem?_append_right (by omega),hl,show k*3+2 - k*3=2 by omega];rfl
   . rw [hq];exact hc.ref hv hS
end
def Yt (n:Nat):Array Value:=madeCells #[.bool false,.slice none 0 0,.slice none 0 0] (n*3)
theorem zhx (n:Nat):(Yt n).size=n*3:=by simp [Yt,madeCells]
theorem zfy (n:Nat):ziy (Yt n):=by
 intro i x h
 have h2:=Array.mem_of_getElem? h
 unfold Yt madeCells at h2
 rw [Array.mem_map] at h2
 obtain ⟨j,_,e⟩:=h2
 have h3:j % 3<3:=Nat.mod_lt _ (by omega)
 have h4:(#[Value.bool false,Value.slice none 0 0,Value.slice none 0 0]:Array Value)[j % 3]! ∈(#[Value.bool false,Value.slice none 0 0,Value.slice none 0 0]:Array Value):=by
  rw [getElem!_pos (#[Value.bool false,Value.slice none 0 0,Value.slice none 0 0]:Array Value) (j % 3) h3]
  exact Array.getElem_mem _
 simp at h4
 simp at e
 rcases h4 with h4 | h4
 . rw [h4] at e;cases e
 . rw [h4] at e;cases e
theorem zmt:(Tryz.prog.info? 63).map (fun i=>(i.zero,i.size,i.bytes))=some (some (.agg #[.bool false,.slice none 0 0,.slice none 0 0]),3,56):=by kernel_rfl
theorem Tryz.underlying57:Tryz.prog.underlying 57=some (.slice 63):=by kernel_rfl
theorem zu4 (k:IntKind) (n:Nat) (hn:n<=1000) (w:World):
 (Instr.makeSlice 57 (.int k (n:Int)) (.int k (n:Int))).run Tryz.prog w= .ok (.slice (some ⟨w.heap.size,0,none⟩) n n) (w.alloc (.cells (Yt n) 63)):=by
 obtain ⟨i,hi,hzz⟩:=Option.map_eq_some_iff.1 zmt
 simp only [Prod.mk.injEq] at hzz
 obtain ⟨hz,hs,hb⟩:=hzz
 rw [run_make (P:=Tryz.prog) w 57 63 i _ Tryz.underlying57 hi hz k k n n (by omega) (by omega) (by rw [hb];omega) (by omega)]
 rw [hs]
 rfl
theorem zoi (w:World) (L:Nat) (f:Nat->Rat):vy (w.alloc (.cells (Yt L) 63)) w.heap.size L 0 f:=
 ⟨⟨_,Blk.new w _ _,zhx L,zfy L⟩,fun k hk=>by omega⟩
theorem Xs {w:World} {ops:Array Oper} {rest:List Oper} {o:Oper} {a:Act} {Q:Exit->Act->World->Prop} (hgd:o.guard=none) (s x:Operand)
 (ho:o.op= .call { callee:=.builtin .append,args:=#[s,x],argTypes:=#[57,57] })
 (base:Nat) (v:Value) (n:Nat) (f f' :Nat->Rat) (hs:a.eval s=v) (hO:YJ w base v n f) (gk c:Nat) (hx:a.eval x= .slice (some ⟨gk,0,none⟩) 1 c)
 {t:TypeId} {ng:Bool} {X Y:Option Addr} {n1 c1 n2 c2:Nat} (hk:Blk w gk t #[.bool ng,.slice X n1 c1,.slice Y n2 c2]) {q:Rat} (hv:xu w (.agg #[.bool ng,.slice X n1 c1,.slice Y n2 c2]) q)
 (hn:n<=1000) (hbase:base<=w.heap.size) (hf:∀ k,k<n->f' k=f k) (hq:f' n=q)
 (h:∀ v' w',YJ w' base v' (n+1) f' ->Chg (fun b=>v.ownBlock=some b) w w' ->(∀ b,v.ownBlock=some b->base<=b/\YO w b)->wpList Tryz.prog ops Q rest (a.put o.dst v') w'):wpList Tryz.prog ops Q (o :: rest) a w:=by
 obtain ⟨i0,hi0,hz0,hz1,hz2⟩:=info_parts zmt
 obtain ⟨xs,ho1,ho3⟩:=hO
 have hcell:∀ (j:Nat) (u:Value),[Value.bool ng,.slice X n1 c1,.slice Y n2 c2][j]?=some u->w.cell? ((⟨gk,0,none⟩:Addr).add j)=some u:=by
  intro j u hu
  have e:((⟨gk,0,none⟩:Addr).add j)=⟨gk,j,none⟩:=by
   unfold Addr.add
   by_cases h:j=0
   . subst h;rfl
   simp [h]
  rw [e,hk.cell j, <- hu]
  simp
 refine Z4 (P:=Tryz.prog) hgd s x _ ho base 63 i0 _ 3 56 Tryz.underlying57 hi0 hz0 hz1 hz2 rfl (by omega) v n xs hs ho1 ⟨gk,0,none⟩ 1 c [.bool ng,.slice X n1 c1,.slice Y n2 c2] hx rfl (by omega) hcell ?_ ?_ (za4 (zgo _ _ _ _ _ _ _)) (by unfold maxLen;omega) (by omega) hbase ?_
 . intro u hu;simp at hu;rcases hu with rfl | rfl | rfl<;>rfl
 . intro u hu
   simp at hu
   rcases hu with rfl | rfl | rfl
   . exact zfh _
   . exact Z8 _ _ _
   . exact Z8 _ _ _
 . intro v' w' hown hg hat
   exact h v' w' (YJ.push ho1 ho3 hown hg hv hf hq) ⟨hg.os,hg.tape,hg.output,hg.size,fun k hk hS=>hg.block k hk (fun e=>hS e.symm)⟩ (fun b hb=>⟨(ho1.1.lt b hb).1,ho1.2 b hb⟩)
end Go.Proofs.YtacfcmdlgebhgaaGreat
