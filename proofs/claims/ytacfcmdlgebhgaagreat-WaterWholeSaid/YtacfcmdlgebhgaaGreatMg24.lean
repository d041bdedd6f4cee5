/- Parts of the proof: memory, numbers, walks of the functions that are called. -/
import Derived.Test.YtacfcmdlgebhgaaGreatMg22
import Derived.Test.YtacfcmdlgebhgaaGreatMg23
set_option linter.unusedVariables false
set_option linter.unusedSimpArgs false
set_option maxRecDepth 100000
set_option maxHeartbeats 32000000
namespace Go.Proofs.YtacfcmdlgebhgaaGreat
open Go.RowKit Go.Deep
attribute [local go_sem ↓] Go.wp_at_zero Go.wp_at_succ
def ZE (a b:List UInt8):List UInt8:=(op2 (· + ·) a b).1
def Vv (a b:List UInt8):List UInt8:=(op2 (· - ·) a b).1
def VK (a b:List UInt8):List UInt8:=(op2 (· * ·) a b).1
def zuf (a b:List UInt8):List UInt8:=(ztp a b).1
theorem ziq (q:Rat):zV (XS q).1:=by
 unfold XS zV
 split
 . next h=>have:=YT h;simp only;omega
 simp
theorem ze7 (f:Rat->Rat->Rat) (a b:List UInt8):zV (op2 f a b).1:=by
 unfold op2
 split
 . exact ziq _
 unfold zV;simp
theorem yE {l:List UInt8} (h:zV l):(⟨l.toArray⟩:ByteArray).size<=1073741824:=by rw [<- zm,yy];exact h
theorem zam (a b:List UInt8) (w:World) (ha:zV a) (hb:zV b):Calls Tryz.prog 22 #[str a,str b] w (vO w (str (ZE a b))):=by
 have h:=zo0 ⟨a.toArray⟩ ⟨b.toArray⟩ w (yE ha) (yE hb)
 rw [yy,yy] at h
 exact h
theorem VE (a b:List UInt8) (w:World) (ha:zV a) (hb:zV b):Calls Tryz.prog 24 #[str a,str b] w (vO w (str (Vv a b))):=by
 have h:=zku ⟨a.toArray⟩ ⟨b.toArray⟩ w (yE ha) (yE hb)
 rw [yy,yy] at h
 exact h
theorem zbr (a b:List UInt8) (w:World) (ha:zV a) (hb:zV b):Calls Tryz.prog 23 #[str a,str b] w (vO w (str (VK a b))):=by
 have h:=zl9 ⟨a.toArray⟩ ⟨b.toArray⟩ w (yE ha) (yE hb)
 rw [yy,yy] at h
 exact h
theorem ze2 (a b:List UInt8) (w:World) (ha:zV a) (hb:zV b):Calls Tryz.prog 41 #[str a,str b] w (vO w (str (zuf a b))):=by
 have h:=zp7 ⟨a.toArray⟩ ⟨b.toArray⟩ w (yE ha) (yE hb)
 rw [yy,yy] at h
 exact h
def ztf (m:Nat) (R:Nat->Nat->List UInt8) (r:Option Nat) (ro:Option Nat) (x c:List UInt8):Nat->Nat->List UInt8:=
 match r with
 | none=>R
 | some r=>
   let R1:=upd R r r (ZE (R r r) c)
   match ro with
   | some q=>upd R1 r q (Vv (R1 r q) c)
   | none=>upd R1 r m (ZE (R1 r m) (VK c x))
def zzq (r:Option Nat):Int:=match r with
 | some q=>q
 | none=> -1
def zd1 (g m:Nat) (R:Nat->Nat->List UInt8) (w:World) (e:Ending) (w' :World):Prop:=e= .returned (.tuple #[])/\yI w' g m R/\w.grownBy w' (some g)
theorem _root_.Go.World.grownBy.of_below {w w' :World} (h:Below w.heap.size w w') (g:Nat):w.grownBy w' (some g):=⟨h.os,h.tape,h.output,h.size,fun b hb _=>h.block b hb⟩
theorem _root_.Go.World.grownBy.set_ {w w' :World} {g:Nat} (h:w.grownBy w' (some g)) (g' i:Nat) (v:Value) (e:g' =g:=by rfl):w.grownBy (w'.setCell ⟨g',i,none⟩ v) (some g):=by
 subst e
 refine ⟨h.os,h.tape,h.output,by simpa using h.size,fun b hb hn=>?_⟩
 have hne:b≠g' :=fun e=>hn (by rw [e])
 exact (Below.heap_setCell w' ⟨g',i,none⟩ v b hne).trans (h.block b hb hn)
theorem zu2 (N m gA gR bA bR bF bO k o:Nat) (c:List UInt8) (R:Nat->Nat->List UInt8) (w:World) (hA:w.cell? ⟨bA,0,none⟩=some (.slice (some ⟨gA,0,none⟩) N N)) (hk:k<N) (hN:N<=1000)
 (hak:w.cell? ⟨gA,k,none⟩=some (.int .i64 (-1))) (hR:yI w gR m R):
 Calls Tryz.prog 48 #[.int .i64 k,.int .i64 o,str c,.pointer (some ⟨bA,0,none⟩),.pointer (some ⟨bR,0,none⟩),.pointer (some ⟨bF,0,none⟩),.pointer (some ⟨bO,0,none⟩)] w (zd1 gR m R w):=by
 have HR:=ze hR
 have hk1:(k:Int)<(N:Int):=by omega
 go_enter Tryz.func48,Tryz.ntmps48
 go_wp2_with fail
 go_end0
 exact ⟨rfl,HR.out,World.grownBy.refl _ _⟩
theorem zbf {w w' :World} {g b i:Nat} {v:Value} (h:w.grownBy w' (some g)) (hb:b<w.heap.size) (hne:b≠g) (hc:w.cell? ⟨b,i,none⟩=some v):w'.cell? ⟨b,i,none⟩=some v:=
 (World.cell?_of_block (w:=w) (w' :=w') (a:=⟨b,i,none⟩) (h.block b hb (fun e=>hne (by injection e)))).trans hc
theorem XB {w w1 w2:World} {g:Nat} (h:w.grownBy w1 (some g)) (hb:Below w1.heap.size w1 w2):w.grownBy w2 (some g):=
 ⟨hb.os.trans h.os,hb.tape.trans h.tape,hb.output.trans h.output,Nat.le_trans h.size hb.size,fun b hb1 hn=>(hb.block b (Nat.lt_of_lt_of_le hb1 h.size)).trans (h.block b hb1 hn)⟩
theorem ZR {w:World} {g i:Nat} {v:Value} (h:w.cell? ⟨g,i,none⟩=some v):g<w.heap.size:=World.block_lt_of_cell? w _ h
theorem zvi (N m gA gR bA bR bF bO k o r q:Nat) (c:List UInt8) (R:Nat->Nat->List UInt8) (w:World) (hA:w.cell? ⟨bA,0,none⟩=some (.slice (some ⟨gA,0,none⟩) N N)) (hk:k<N) (ho:o<N) (hN:N<=1000)
 (hak:w.cell? ⟨gA,k,none⟩=some (.int .i64 (r:Int))) (hao:w.cell? ⟨gA,o,none⟩=some (.int .i64 (q:Int))) (hB:w.cell? ⟨bR,0,none⟩=some (.slice (some ⟨gR,0,none⟩) m m)) (hr:r<m) (hq:q<m) (hm:m<=24) (hR:yI w gR m R)
 (hs:∀ i j,zV (R i j)) (hc:zV c) (d1:bA≠gR) (d2:gA≠gR) (d3:bR≠gR):
 Calls Tryz.prog 48 #[.int .i64 k,.int .i64 o,str c,.pointer (some ⟨bA,0,none⟩),.pointer (some ⟨bR,0,none⟩),.pointer (some ⟨bF,0,none⟩),.pointer (some ⟨bO,0,none⟩)] w (zd1 gR m (ztf m R (some r) (some q) [] c) w):=by
 have HR:=ze hR
 have HW:=ze (zP w)
 have HS:=ze hs
 have hk1:(k:Int)<(N:Int):=by omega
 have ho1:(o:Int)<(N:Int):=by omega
 have hr1:(r:Int)<(m:Int):=by omega
 have hr2:(0:Int)<=(r:Int):=by omega
 have hr3:(r:Int)<25:=by omega
 have hq1:(q:Int)<25:=by omega
 have hq2:(0:Int)<=(q:Int):=by omega
 have lA:=ZR hA
 have lgA:=ZR hak
 have lR:=ZR hB
 have lg:=hR.lt
 have cR:=hR.cell hr (show r<25 by omega)
 have HC:=ze hc
 clear hs hc hR
 go_enter Tryz.func48,Tryz.ntmps48
 go_wp2_with fail
 go_quiet (fail)
 have hbB:=zw w nq
 replace HW:=eb_ HW hbB
 replace HR:=ze (HR.out.below hbB)
 clear hbB
 generalize w.drewN nq=W at HW HR |-
 clear nq
 go_wp2_with fail
 have hA1:=(HW.out.cell (p:=⟨bA,0,none⟩) lA).trans hA
 have hak1:=(HW.out.cell (p:=⟨gA,k,none⟩) lgA).trans hak
 have cR1:=HR.out.cell hr (show r<25 by omega)
 have lA1:=Nat.lt_of_lt_of_le lA HW.out.size
 have lgA1:=Nat.lt_of_lt_of_le lgA HW.out.size
 have lg1:=HR.out.lt
 clear cR lg
 have hA1g:=zF lA1 hA1
 have hak1g:=zF lgA1 hak1
 have cR1g:=zF lg1 cR1
 refine yu 17 (by kernel_rfl) (by kernel_rfl) ?_
 simp only [List.take_succ_cons,List.take_zero,List.drop_succ_cons,List.drop_zero]
 repeat (quiet_step (first | (go_at_call 22;exact zR (zam _ _ _ (HS.out _ _) HC.out))))
 refine wpQuiet_nil ?_
 rintro w9 ⟨t9,rfl⟩
 clear hA1g hak1g cR1g
 have hbB:=yq W t9
 replace HW:=eb_ HW hbB
 replace HR:=ze (HR.out.below hbB)
 generalize grown W t9=W2 at hbB HW HR |-
 clear t9
 clear hA1 hak1 cR1 lA1 lgA1 lg1 hbB
 have c2:=HR.out.cell hr (show r<25 by omega)
 have f2:=HR.out.frozen (r*25+r)
 have l2:=HR.out.lt
 have HG:=ze (World.grownBy.of_below HW.out gR)
 have HR2:=ze (HR.out.set_ (i:=r) (show r<25 by omega) (ZE (R r r) c))
 have HG2:=ze (HG.out.set_ gR (r*25+r) (str (ZE (R r r) c)))
 have hA2:=(HW.out.cell (p:=⟨bA,0,none⟩) lA).trans hA
 have hao2:=(HW.out.cell (p:=⟨gA,o,none⟩) lgA).trans hao
 have e1:¬ gR=bA:=fun e=>d1 e.symm
 have e2:¬ gR=gA:=fun e=>d2 e.symm
 go_wp2_with fail
 generalize W2.setCell ⟨gR,r*25+r,none⟩ (.string ⟨(ZE (R r r) c).toArray⟩)=W3 at HR2 HG2 |-
 clear c2 f2 l2 hA2 hao2 HG HR HW
 have HS2:Hid (∀ i j,zV (upd R r r (ZE (R r r) c) i j)):=by
  intro i j
  unfold upd
  split
  . exact ze7 _ _ _
  exact HS.out i j
 have HP:Hid (ztf m R (some r) (some q) [] c=upd (upd R r r (ZE (R r r) c)) r q (Vv (upd R r r (ZE (R r r) c) r q) c)):=rfl
 rw [HP.out]
 generalize upd R r r (ZE (R r r) c)=R1 at HR2 HS2 |-
 have hA3:=zbf HG2.out lA d1 hA
 have hao3:=zbf HG2.out lgA d2 hao
 have lA3:=ZR hA3
 have lgA3:=ZR hao3
 have cR3:=HR2.out.cell hr (show q<25 by omega)
 have lg3:=HR2.out.lt
 have HB3:=ze (zP W3)
 have hA3g:=zF lA3 hA3
 have hao3g:=zF lgA3 hao3
 have cR3g:=zF lg3 cR3
 refine yu 17 (by kernel_rfl) (by kernel_rfl) ?_
 simp only [List.take_succ_cons,List.take_zero,List.drop_succ_cons,List.drop_zero]
 repeat (quiet_step (first | (go_at_call 24;exact zR (VE _ _ _ (HS2.out _ _) HC.out))))
 refine wpQuiet_nil ?_
 rintro w9 ⟨t9,rfl⟩
 clear hA3g hao3g cR3g
 have hbB:=yq W3 t9
 replace HB3:=eb_ HB3 hbB
 replace HR2:=ze (HR2.out.below hbB)
 generalize grown W3 t9=W4 at hbB HB3 HR2 |-
 clear t9
 clear hA3 hao3 cR3 lA3 lgA3 lg3 hbB
 have c2:=HR2.out.cell hr (show q<25 by omega)
 have f2:=HR2.out.frozen (r*25+q)
 have l2:=HR2.out.lt
 have HR3:=ze (HR2.out.set_ (i:=r) (show q<25 by omega) (Vv (R1 r q) c))
 have HG3:=ze ((XB HG2.out HB3.out).set_ gR (r*25+q) (str (Vv (R1 r q) c)))
 go_wp2_with fail
 go_end0
 exact ⟨rfl,HR3.out,HG3.out⟩
theorem zsr (N m gA gR gO bA bR bF bO k o r cF:Nat) (F:Option Addr) (c x:List UInt8) (R:Nat->Nat->List UInt8) (w:World) (hA:w.cell? ⟨bA,0,none⟩=some (.slice (some ⟨gA,0,none⟩) N N)) (hk:k<N) (ho:o<N) (hN:N<=1000)
 (hak:w.cell? ⟨gA,k,none⟩=some (.int .i64 (r:Int))) (hao:w.cell? ⟨gA,o,none⟩=some (.int .i64 (-1))) (hB:w.cell? ⟨bR,0,none⟩=some (.slice (some ⟨gR,0,none⟩) m m)) (hr:r<m) (hF:w.cell? ⟨bF,0,none⟩=some (.slice F m cF)) (hO:w.cell? ⟨bO,0,none⟩=some (.slice (some ⟨gO,0,none⟩) N N)) (hxo:w.cell? ⟨gO,o,none⟩=some (str x)) (hx:zV x) (hm:m<=24) (hR:yI w gR m R)
 (hs:∀ i j,zV (R i j)) (hc:zV c) (d1:bA≠gR) (d2:gA≠gR) (d3:bR≠gR) (d4:bF≠gR) (d5:bO≠gR) (d6:gO≠gR):
 Calls Tryz.prog 48 #[.int .i64 k,.int .i64 o,str c,.pointer (some ⟨bA,0,none⟩),.pointer (some ⟨bR,0,none⟩),.pointer (some ⟨bF,0,none⟩),.pointer (some ⟨bO,0,none⟩)] w (zd1 gR m (ztf m R (some r) none x c) w):=by
 have HR:=ze hR
 have HW:=ze (zP w)
 have HS:=ze hs
 have hk1:(k:Int)<(N:Int):=by omega
 have ho1:(o:Int)<(N:Int):=by omega
 have hr1:(r:Int)<(m:Int):=by omega
 have hr2:(0:Int)<=(r:Int):=by omega
 have hr3:(r:Int)<25:=by omega
 have hm1:(m:Int)<25:=by omega
 have hm2:(0:Int)<=(m:Int):=by omega
 have HX:=ze hx
 have lF:=ZR hF
 have lO:=ZR hO
 have lgO:=ZR hxo
 have lA:=ZR hA
 have lgA:=ZR hak
 have lR:=ZR hB
 have lg:=hR.lt
 have cR:=hR.cell hr (show r<25 by omega)
 have HC:=ze hc
 clear hs hc hR hx
 go_enter Tryz.func48,Tryz.ntmps48
 go_wp2_with fail
 go_quiet (fail)
 have hbB:=zw w nq
 replace HW:=eb_ HW hbB
 replace HR:=ze (HR.out.below hbB)
 clear hbB
 generalize w.drewN nq=W at HW HR |-
 clear nq
 go_wp2_with fail
 have hA1:=(HW.out.cell (p:=⟨bA,0,none⟩) lA).trans hA
 have hak1:=(HW.out.cell (p:=⟨gA,k,none⟩) lgA).trans hak
 have cR1:=HR.out.cell hr (show r<25 by omega)
 have lA1:=Nat.lt_of_lt_of_le lA HW.out.size
 have lgA1:=Nat.lt_of_lt_of_le lgA HW.out.size
 have lg1:=HR.out.lt
 clear cR lg
 have hA1g:=zF lA1 hA1
 have hak1g:=zF lgA1 hak1
 have cR1g:=zF lg1 cR1
 refine yu 17 (by kernel_rfl) (by kernel_rfl) ?_
 simp only [List.take_succ_cons,List.take_zero,List.drop_succ_cons,List.drop_zero]
 repeat (quiet_step (first | (go_at_call 22;exact zR (zam _ _ _ (HS.out _ _) HC.out))))
 refine wpQuiet_nil ?_
 rintro w9 ⟨t9,rfl⟩
 clear hA1g hak1g cR1g
 have hbB:=yq W t9
 replace HW:=eb_ HW hbB
 replace HR:=ze (HR.out.below hbB)
 generalize grown W t9=W2 at hbB HW HR |-
 clear t9
 clear hA1 hak1 cR1 lA1 lgA1 lg1 hbB
 have c2:=HR.out.cell hr (show r<25 by omega)
 have f2:=HR.out.frozen (r*25+r)
 have l2:=HR.out.lt
 have HG:=ze (World.grownBy.of_below HW.out gR)
 have HR2:=ze (HR.out.set_ (i:=r) (show r<25 by omega) (ZE (R r r) c))
 have HG2:=ze (HG.out.set_ gR (r*25+r) (str (ZE (R r r) c)))
 have hA2:=(HW.out.cell (p:=⟨bA,0,none⟩) lA).trans hA
 have hao2:=(HW.out.cell (p:=⟨gA,o,none⟩) lgA).trans hao
 have e1:¬ gR=bA:=fun e=>d1 e.symm
 have e2:¬ gR=gA:=fun e=>d2 e.symm
 go_wp2_with fail
 generalize W2.setCell ⟨gR,r*25+r,none⟩ (.string ⟨(ZE (R r r) c).toArray⟩)=W3 at HR2 HG2 |-
 clear c2 f2 l2 hA2 hao2 HG HR HW
 have HS2:Hid (∀ i j,zV (upd R r r (ZE (R r r) c) i j)):=by
  intro i j
  unfold upd
  split
  . exact ze7 _ _ _
  exact HS.out i j
 have HP:Hid (ztf m R (some r) none x c=upd (upd R r r (ZE (R r r) c)) r m (ZE (upd R r r (ZE (R r r) c) r m) (VK c x))):=rfl
 rw [HP.out]
 generalize upd R r r (ZE (R r r) c)=R1 at HR2 HS2 |-
 have hF3:=zbf HG2.out lF d4 hF
 have hO3:=zbf HG2.out lO d5 hO
 have hx3:=zbf HG2.out lgO d6 hxo
 have lF3:=ZR hF3
 have lO3:=ZR hO3
 have lgO3:=ZR hx3
 have cR3:=HR2.out.cell hr (show m<25 by omega)
 have lg3:=HR2.out.lt
 have HB3:=ze (zP W3)
 have hF3g:=zF lF3 hF3
 have hO3g:=zF lO3 hO3
 have hx3g:=zF lgO3 hx3
 have cR3g:=zF lg3 cR3
 refine yu 18 (by kernel_rfl) (by kernel_rfl) ?_
 simp only [List.take_succ_cons,List.take_zero,List.drop_succ_cons,List.drop_zero]
 repeat (quiet_step (first | (go_at_call 23;exact zR (zbr _ _ _ HC.out HX.out)) | (go_at_call 22;exact zR (zam _ _ _ (HS2.out _ _) (ze7 _ _ _)))))
 refine wpQuiet_nil ?_
 rintro w9 ⟨t9,rfl⟩
 clear hF3g hO3g hx3g cR3g
 have hbB:=yq W3 t9
 replace HB3:=eb_ HB3 hbB
 replace HR2:=ze (HR2.out.below hbB)
 generalize grown W3 t9=W4 at hbB HB3 HR2 |-
 clear t9
 clear hF3 hO3 hx3 cR3 lF3 lO3 lgO3 lg3 hbB
 have c2:=HR2.out.cell hr (show m<25 by omega)
 have f2:=HR2.out.frozen (r*25+m)
 have l2:=HR2.out.lt
 have HR3:=ze (HR2.out.set_ (i:=r) (show m<25 by omega) (ZE (R1 r m) (VK c x)))
 have HG3:=ze ((XB HG2.out HB3.out).set_ gR (r*25+m) (str (ZE (R1 r m) (VK c x))))
 go_wp2_with fail
 go_end0
 exact ⟨rfl,HR3.out,HG3.out⟩
end Go.Proofs.YtacfcmdlgebhgaaGreat
