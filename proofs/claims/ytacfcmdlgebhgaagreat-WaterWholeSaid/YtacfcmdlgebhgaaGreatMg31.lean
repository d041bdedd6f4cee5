/- Parts of the proof: memory, numbers, walks of the functions that are called. -/
import Derived.Test.YtacfcmdlgebhgaaGreatMg27
import Derived.Test.YtacfcmdlgebhgaaGreatMg30
set_option linter.unusedVariables false
set_option linter.unusedSimpArgs false
set_option maxRecDepth 100000
set_option maxHeartbeats 32000000
namespace Go.Proofs.YtacfcmdlgebhgaaGreat
open Go.RowKit Go.Deep
attribute [local go_sem ↓] Go.wp_at_zero Go.wp_at_succ
def RcnR (cs:List (List UInt8)) (w:World) (csN:Array Value) (ov iv:Value) (wr:World):Prop:=
 ∃ i:Nat,i<=cs.length/\iv= .int .i64 i/\Hid (∀ j,j<i->yP (cs.getD j [])=0)/\Hid (YJ wr (w.heap.size+1) ov i (zl cs))/\Hid (Blk wr w.heap.size 26 csN)/\Hid (Below w.heap.size w wr)
def zmk (n:Net) (cs:List (List UInt8)) (w:World) (e:Ending) (w' :World):Prop:=
 Below w.heap.size w w' /\((xw n cs≠0/\e= .returned (.tuple #[.slice none 0 0,.int .i64 (xw n cs)]))\/(xw n cs=0/\∃ v,e= .returned (.tuple #[v,.int .i64 0])/\xT w' v n.pipes.length (zl cs)))
theorem zui (vn vc:Value) (n:Net) (cs:List (List UInt8)) (w:World) (hn:Zw w vn n) (hc:yY w vc cs):
 Calls Tryz.prog 26 #[vn,vc] w (zmk n cs w):=by
 have HCN:=ze hc
 obtain ⟨A0,k0,c0,A1,k1,c1,A2,k2,c2,A3,k3,c3,rfl,hn0,hn1,hn2,hn3⟩:=hn
 have hk1:k1=n.pipes.length:=by obtain ⟨A',c',e,_⟩:=hn1;injection e
 obtain ⟨Ac,cc,rfl,hcc,hcm,h1000,hcr,hsm⟩:=hc
 have HSM:=ze hsm
 have HK1:=ze hk1
 obtain ⟨x,HX⟩:∃ x,Hid (xw n cs=x):=⟨_,ze rfl⟩
 have hx:=zg w (.cells #[.slice A0 k0 c0,.slice A1 k1 c1,.slice A2 k2 c2,.slice A3 k3 c3] 26)
 have HK:=ze (Blk.new w 26 #[.slice A0 k0 c0,.slice A1 k1 c1,.slice A2 k2 c2,.slice A3 k3 c3])
 have HW:=ze hx
 unfold zmk
 rw [HX.out, <- hk1]
 clear hx hn0 hn1 hn2 hn3 hcc hcm hcr hsm hk1
 by_cases hl:cs.length=k1
 rotate_left
 . have hd:((cs.length:Int) != (k1:Int))=true:=by rw [bne_iff_ne];omega
   have HX1:Hid (x=1):=by
    have h:=HX.out;unfold xw at h;rw [if_pos (by have:=HK1.out;omega)] at h;exact h.symm
   clear hl
   go_enter Tryz.func26,Tryz.ntmps26
   go_wp2_with fail;go_ret2;have h9:=HX1.out;subst h9;exact ⟨HW.out,.inl ⟨by decide,rfl⟩⟩
 have hd:((cs.length:Int) != (k1:Int))=false:=by rw [bne_eq_false_iff_eq];omega
 have HF:Hid (zW cs.length (fun i=>yP (cs.getD i []))=x):=by
  have h:=HX.out;unfold xw at h;rw [if_neg (by have:=HK1.out;omega)] at h;exact h
 have HL:=ze hl;clear hl
 go_enter Tryz.func26,Tryz.ntmps26
 go_wp2_with fail
 go_loopw [6,7] (RcnR cs w #[.slice A0 k0 c0,.slice A1 k1 c1,.slice A2 k2 c2,.slice A3 k3 c3]) (fun _ iv _=>cs.length - (intOf iv).toNat)
 case atStart=>exact ⟨0,Nat.zero_le _,rfl,fun j h=>by omega,YJ.nil _ _ _,HK,HW⟩
 case round=>
  clear HK HW;obtain ⟨i,hi,rfl,HD,HO,HK,HW⟩:=hrel
  by_cases hil:i<cs.length
  rotate_left
  . obtain rfl:i=cs.length:=by omega
    have HX0:Hid (x=0):=ze (by rw [<- HF.out];exact zN.2 HD.out);go_wp2_with fail;go_ret2;have h9:=HX0.out;subst h9;exact ⟨HW.out,.inr ⟨rfl,_,rfl,by rw [<- HL.out];exact HO.out.nums⟩⟩
  have hii:(i:Int)<(cs.length:Int):=by omega
  obtain ⟨ac,e2,lc,qc⟩:=Vw (HCN.out.below HW.out) hil;subst e2;have hci:zV cs[i]:=HSM.out _ (List.getElem_mem hil);have hge:cs.getD i []=cs[i]:=by simp [List.getD,List.getElem?_eq_getElem hil]
  have h1:=fun w=>Yz ⟨(cs[i]).toArray⟩ w (yE hci)
  rw [yy] at h1;have HAE:Hid (yP (cs.getD i [])=if zY cs[i]≠0 then zY cs[i] else if vS cs[i]<=0 then 1 else 0):=by rw [hge];rfl
  have HCO:Hid (zl cs i=vS cs[i]):=by show _=_;unfold zl;rw [hge]
  go_wp2_with fail;refine (h1 _).mono ?_;rintro e w1 ⟨rfl,hb1⟩;have HO1:=ze (HO.out.below hb1);have HK1' :=ze (HK.out.below hb1 HK.out.lt);have HW1:=ze (ext HW.out hb1);have lc1:=Nat.lt_of_lt_of_le lc hb1.size;have qc1:=VG hb1 lc qc;clear HO HK HW hb1 h1 lc qc
  by_cases h0:zY cs[i]=0
  rotate_left
  . have hI:(zY cs[i] != 0)=true:=by rw [bne_iff_ne];exact h0
    have HFX:Hid (x=zY cs[i]):=by
     have h1:yP (cs.getD i [])=zY cs[i]:=by have:=HAE.out;rw [if_pos h0] at this;exact this
     have h2:=xO (f:=fun i=>yP (cs.getD i [])) hil HD.out (by show yP _≠0;rw [h1];exact h0);rw [HF.out] at h2;exact h2.trans h1
    have H0:=ze h0;clear h0 HAE HCO hge hci qc1;generalize zY cs[i]=ev at hI HFX H0 |-;go_wp2_with fail;go_ret2;have h9:=HFX.out;subst h9;exact ⟨HW1.out,.inl ⟨H0.out,rfl⟩⟩
  obtain ⟨q,hq1,hq2,hq3,hq4⟩:=vF h0
  have hm:∀ w,Calls Tryz.prog 39 #[str cs[i]] w (Yg w q):=fun w=>V5 ⟨(cs[i]).toArray⟩ q w (yE hci) (by rw [yy];exact hq1)
  have HAE2:Hid (yP (cs.getD i [])=if q<=0 then 1 else 0):=by
   have h:=HAE.out;rw [if_neg (by rw [h0];decide),hq3] at h;exact h
  have HCO2:=ze (HCO.out.trans hq3);rw [h0];clear hq1 hq2 hq3 hq4 HAE HCO h0 hge hci;go_wp2_with fail;refine (hm _).mono ?_;rintro e w2 ⟨v,rfl,hv,hb2⟩;have HO2:=ze (HO1.out.below hb2);have HK2:=ze (HK1'.out.below hb2 HK1'.out.lt);have HW2:=ze (ext HW1.out hb2);have lc2:=Nat.lt_of_lt_of_le lc1 hb2.size;have qc2:=VG hb2 lc1 qc1;clear HO1 HK1' HW1 lc1 qc1 hb2;have hs:=YZ v q w2 hv
  rcases sgn3 q with ⟨hs0,hz⟩ | ⟨hs0,hz⟩ | ⟨hs0,hz⟩
  rotate_right
  . rw [hz] at hs
    have HZ0:Hid (yP (cs.getD i [])=0):=ze (by have:=HAE2.out;rw [if_neg hs0] at this;exact this);clear hz hs0 HAE2;go_wp2_with fail;refine hs.mono ?_;rintro e w3 ⟨rfl,hb3⟩;have HO3:=ze (HO2.out.below hb3);have HK3:=ze (HK2.out.below hb3 HK2.out.lt);have HW3:=ze (ext HW2.out hb3);have qc3:=VG hb3 lc2 qc2;clear HO2 HK2 HW2 lc2 qc2 hb3 hs hv;go_wp2_with fail;refine (hm _).mono ?_;rintro e w4 ⟨v4,rfl,hv4,hb4⟩;obtain ⟨ng,X,n1,c8,Y,n2,c9,rfl,hv0⟩:=hv4;have hv1:xu w4 (.agg #[.bool ng,.slice X n1 c8,.slice Y n2 c9]) q:=⟨ng,X,n1,c8,Y,n2,c9,rfl,hv0⟩;have hx:=zg w4 (.cells #[.bool ng,.slice X n1 c8,.slice Y n2 c9] 63);have HV:=ze (hv1.below hx);have HO4:=ze (HO3.out.below (ext hb4 hx));have HK4:=ze (HK3.out.below (ext hb4 hx) HK3.out.lt);have HW4:=ze (ext HW3.out (ext hb4 hx));have HN4:=ze (Blk.new w4 63 #[.bool ng,.slice X n1 c8,.slice Y n2 c9]);have HB4:Hid (w.heap.size+1<=(w4.alloc (.cells #[.bool ng,.slice X n1 c8,.slice Y n2 c9] 63)).heap.size):=HK4.out.lt;clear HO3 HK3 HW3 qc3 hv0 hv1 hb4 hx hm
    go_wp2_with (at_builtin;go_loud (refine Xs rfl (.tmp 36) (.tmp 42) rfl (w.heap.size+1) _ i (zl cs) (zl cs) rfl HO4.out w4.heap.size 1 rfl HN4.out HV.out (by omega) HB4.out (fun _ _=>rfl) HCO2.out ?_));intro v5 w5 hO5 hc5 hg5;have HO5:=ze hO5;have HK5:=ze (hc5.blk HK4.out (fun e=>by have:=(hg5 _ e).1;omega));have HW5:=ze (HW4.out.trans (hc5.below HW4.out.size (fun b e=>by have:=(hg5 b e).1;omega)));clear hO5 hc5 hg5 HO4 HK4 HW4 HN4 HB4 HV;go_wp2_with fail;go_roundw
    case rel=>
     refine ⟨i+1,by omega,by go_num,fun j hj=>?_,HO5,HK5,HW5⟩
     rcases Nat.lt_or_ge j i with h | h
     . exact HD.out j h
     . obtain rfl:j=i:=by omega
       exact HZ0.out
    case measure=>simp [intOf];omega
  all_goals
   rw [hz] at hs
   have HFX:Hid (x=1):=by
    have h1:yP (cs.getD i [])=1:=by have:=HAE2.out;rw [if_pos hs0] at this;exact this
    have h2:=xO (f:=fun i=>yP (cs.getD i [])) hil HD.out (by show yP _≠0;rw [h1];decide);rw [HF.out] at h2;exact h2.trans h1
   clear hz hs0 HAE2 hm;go_wp2_with fail;refine hs.mono ?_;rintro e w3 ⟨rfl,hb3⟩;have HW3:=ze (ext HW2.out hb3);clear hb3 hs hv qc2 HO2 HK2 HW2;go_wp2_with fail;go_ret2;have h9:=HFX.out;subst h9;exact ⟨HW3.out,.inl ⟨by decide,rfl⟩⟩
theorem Tryz.underlying91:Tryz.prog.underlying 91=some (.slice 57):=by kernel_rfl
theorem zvw:(Tryz.prog.info? 57).map (fun i=>(i.zero,i.size,i.bytes))=some (some (.slice none 0 0),1,24):=by kernel_rfl
theorem xV.push {w w3:World} {base L m:Nat} {mv v3:Value} {g:Nat->Nat} {T:Nat->Nat->Rat} {gl:Nat} {f:Nat->Rat} (h:xV base w mv L m g T) (hr:vy w gl L L f) (hb:base<=gl) (hne:∀ j,j<m->g j≠gl)
 (hown:zkj w3 base 57 1 v3 (m+1) (((List.range m).map fun i=>hdr L (g i)) ++ [hdr L gl])) (hg:w.grownBy w3 mv.ownBlock) (hT:∀ j,j<L->T m j=f j):
 xV base w3 v3 L (m+1) (fun i=>if i=m then gl else g i) T:=by
 have hc:Chg (fun b=>mv.ownBlock=some b) w w3:=⟨hg.os,hg.tape,hg.output,hg.size,fun k hk hS=>hg.block k hk (fun e=>hS e.symm)⟩
 have hS:∀ b,mv.ownBlock=some b->YO w b:=h.own.2
 refine ⟨?_,fun i j hi hj e=>?_,fun i hi=>?_⟩
 . have e:(List.range (m+1)).map (fun i=>hdr L (if i=m then gl else g i))=((List.range m).map fun i=>hdr L (g i)) ++ [hdr L gl]:=by
    rw [List.range_succ,List.map_append]
    congr 1
    rotate_left
    . simp
    apply List.map_congr_left
    intro i hi;rw [if_neg (by have:=List.mem_range.1 hi;omega)]
   rw [e];exact hown
 . by_cases i1:i=m
   . by_cases j1:j=m
     . omega
     rw [if_pos i1,if_neg j1] at e;exact absurd e.symm (hne j (by omega))
   by_cases j1:j=m
   . rw [if_neg i1,if_pos j1] at e;exact absurd e (hne i (by omega))
   rw [if_neg i1,if_neg j1] at e;exact h.inj i j (by omega) (by omega) e
 . by_cases i1:i=m
   . rw [if_pos i1]
     refine ⟨hb,(hr.fewer fun k hk=>⟨hk,?_⟩).chg hc (zn9 h.own hr) hS⟩;rw [i1];exact hT k hk
   rw [if_neg i1]
   exact ⟨(h.rows i (by omega)).1,(h.rows i (by omega)).2.chg hc (zn9 h.own (h.rows i (by omega)).2) hS⟩
structure zmd (w0:World) (csN:Array Value) (L:Nat) (T:Nat->Nat->Rat) (mv:Value) (i:Nat) (g:Nat->Nat) (gl nt:Nat) (f:Nat->Rat) (wr:World):Prop where
 mat:xV (w0.heap.size+1) wr mv L i g T
 row:vy wr gl L nt f
 base:w0.heap.size+1<=gl
 ne:∀ j,j<i->g j≠gl
 net:Blk wr w0.heap.size 26 csN
 low:Below w0.heap.size w0 wr
section
variable {w0 wr w' :World} {csN:Array Value} {L i gl nt:Nat} {T:Nat->Nat->Rat} {mv:Value} {g:Nat->Nat} {f:Nat->Rat}
theorem zmd.below (h:zmd w0 csN L T mv i g gl nt f wr) (hb:Below wr.heap.size wr w'):zmd w0 csN L T mv i g gl nt f w' :=
 ⟨h.mat.below hb,h.row.below hb,h.base,h.ne,h.net.below hb h.net.lt,ext h.low hb⟩
theorem zmd.set {k nt' :Nat} {q:Rat} {f' :Nat->Rat} {ng:Bool} {X Y:Option Addr} {n1 c n2 d:Nat} (h:zmd w0 csN L T mv i g gl nt f wr) (hk:k<L) (hv:xu wr (.agg #[.bool ng,.slice X n1 c,.slice Y n2 d]) q)
 (hf:∀ j,j<nt' ->(j=k/\f' j=q)\/(j≠k/\j<nt/\f' j=f j)):zmd w0 csN L T mv i g gl nt' f' (World.refAt wr gl k ng X n1 c Y n2 d):=by
 have hc:=YC (w:=wr) (g:=gl) (k:=k) (ng:=ng) (A:=X) (n:=n1) (c:=c) (B:=Y) (m:=n2) (d:=d)
 have hS:∀ b,b=gl->YO wr b:=fun b e=>by subst e;exact h.row.noI64
 have hb:=h.base
 exact ⟨h.mat.chg hc h.ne (fun b hb2 e=>by subst e;exact zn9 h.mat.own h.row hb2) hS,h.row.set hk hv hf,h.base,h.ne,hc.blk h.net (by omega),
  h.low.trans (hc.below h.low.size fun b e=>by omega)⟩
theorem zmd.box {gb:Nat} {t:TypeId} {cs:Array Value} {k:Nat} {ng:Bool} {X Y:Option Addr} {n1 c n2 d:Nat} (h:zmd w0 csN L T mv i g gl nt f wr) (hk:Blk wr gb t cs) (hne:gb≠gl):Blk (World.refAt wr gl k ng X n1 c Y n2 d) gb t cs:=
 (YC (w:=wr) (g:=gl)).blk hk hne
end
def SlrI (w0:World) (csN:Array Value) (N:Nat) (T:Nat->Nat->Rat) (mv iv:Value) (wr:World):Prop:=
 ∃ (i:Nat) (g:Nat->Nat),i<=N/\iv= .int .i64 i/\Hid (xV (w0.heap.size+1) wr mv (N+1) i g T)/\Hid (Blk wr w0.heap.size 26 csN)/\Hid (Below w0.heap.size w0 wr)
def SlrK (w0:World) (csN:Array Value) (N:Nat) (T:Nat->Nat->Rat) (mv:Value) (i:Nat) (g:Nat->Nat) (gl:Nat) (kv:Value) (wr:World):Prop:=
 ∃ k:Nat,k<=N+1/\kv= .int .i64 k/\Hid (zmd w0 csN (N+1) T mv i g gl k (fun _=>0) wr)
def SlrP (w0:World) (csN:Array Value) (N np:Nat) (T:Nat->Nat->Rat) (mv:Value) (i:Nat) (g:Nat->Nat) (gl:Nat) (R:Nat->Nat->Rat) (kv:Value) (wr:World):Prop:=
 ∃ k:Nat,k<=np/\kv= .int .i64 k/\Hid (zmd w0 csN (N+1) T mv i g gl (N+1) (R k) wr)
def SlvK (w0:World) (N:Nat) (T:Tab) (mv kv:Value) (wr:World):Prop:=
 ∃ (k:Nat) (A:Tab) (g:Nat->Nat),k<=N/\kv= .int .i64 k/\Hid (Vc N T zx7 k A)/\Hid (xV (w0.heap.size+1) wr mv (N+1) N g A)/\Hid (Below w0.heap.size w0 wr)
def SlvP (w0:World) (N gm cap:Nat) (g:Nat->Nat) (A:Tab) (k p0:Nat) (pv:Value) (wr:World):Prop:=
 ∃ p:Nat,k<=p/\p<=p0/\pv= .int .i64 p/\Hid (xV (w0.heap.size+1) wr (.slice (some ⟨gm,0,none⟩) N cap) (N+1) N g A)/\Hid (Below w0.heap.size w0 wr)
def SlvI (w0:World) (N gm cap:Nat) (g:Nat->Nat) (k:Nat) (B:Tab) (iv:Value) (wr:World):Prop:=
 ∃ i:Nat,i<=N/\iv= .int .i64 i/\Hid (xV (w0.heap.size+1) wr (.slice (some ⟨gm,0,none⟩) N cap) (N+1) N g (freed B k i))/\Hid (Below w0.heap.size w0 wr)
def zas (w:World) (gb:Nat) (q:Rat):Prop:=
 ∃ (ng:Bool) (X:Option Addr) (n1 c:Nat) (Y:Option Addr) (n2 d:Nat),Blk w gb 63 #[.bool ng,.slice X n1 c,.slice Y n2 d]/\xu w (.agg #[.bool ng,.slice X n1 c,.slice Y n2 d]) q
theorem zas.chg {S:Nat->Prop} {w w' :World} {gb:Nat} {q:Rat} (h:zas w gb q) (hc:Chg S w w') (hg:¬ S gb) (hS:∀ b,S b->YO w b):zas w' gb q:=by
 obtain ⟨ng,X,n1,c,Y,n2,d,h1,h2⟩:=h
 exact ⟨ng,X,n1,c,Y,n2,d,hc.blk h1 hg,hc.ref h2 hS⟩
theorem zas.below {w w' :World} {gb:Nat} {q:Rat} (h:zas w gb q) (hb:Below w.heap.size w w'):zas w' gb q:=h.chg (S:=fun _=>False) (Chg.of_below hb) (fun h=>h) (fun _ h=>h.elim)
def SlvC (w0:World) (N gm cap:Nat) (g:Nat->Nat) (k i gb:Nat) (B:Tab) (cv:Value) (wr:World):Prop:=
 ∃ c:Nat,k<=c/\c<=N+1/\cv= .int .i64 c/\Hid (xV (w0.heap.size+1) wr (.slice (some ⟨gm,0,none⟩) N cap) (N+1) N g (zio B k i c))/\Hid (zas wr gb (B i k / B k k))/\Hid (Below w0.heap.size w0 wr)
def SlvO (w0:World) (N:Nat) (mv:Value) (g:Nat->Nat) (A:Tab) (BE:Nat) (ov iv:Value) (wr:World):Prop:=
 ∃ i:Nat,i<=N/\iv= .int .i64 i/\Hid (YJ wr BE ov i (fun k=>A k N / A k k))/\Hid (xV (w0.heap.size+1) wr mv (N+1) N g A)/\Hid (Below w0.heap.size w0 wr)/\Hid (BE<=wr.heap.size)
def zwg (n:Net) (c:Nat->Rat) (fx:Nat->Option Rat) (wl:Nat->Rat) (asked:Nat->Bool) (w:World) (e:Ending) (w' :World):Prop:=
 ∃ v h,e= .returned v/\xT w' v n.nodes.length h/\Yp n.nodes.length n.pipes.length n.pf n.pt c fx wl asked h/\(∀ k,k<n.nodes.length->Dz zzd (h k))/\Below w.heap.size w w'
theorem zrm (vn vc vh vl va:Value) (n:Net) (lh ll:List yU) (bs:List Bool) (c:Nat->Rat) (w:World) (hn:Zw w vn n) (hc:xT w vc n.pipes.length c) (hh:yk w vh lh) (hl:yk w vl ll) (ha:Zy w va bs)
 (hrh:∀ v∈lh,(zp v.value).isSome=true) (hrl:∀ v∈ll,(zp v.value).isSome=true) (hbs:bs.length=n.nodes.length) (he:n.Ends)
 (hG:xP n.nodes.length n.pipes.length n.pf n.pt c (Net.at_ lh) (fun k=>(Net.at_ ll k).getD 0) (fun k=>bs.getD k false)):
 Calls Tryz.prog 28 #[vn,vc,vh,vl,va] w (zwg n c (Net.at_ lh) (fun k=>(Net.at_ ll k).getD 0) (fun k=>bs.getD k false) w):=by
 have hlh:=fun w' (h:Below w.heap.size w w') (i:Nat)=>zar vh lh (i:Int) w' (hh.below h) hrh
 have hll:=fun w' (h:Below w.heap.size w w') (i:Nat)=>zar vl ll (i:Int) w' (hl.below h) hrl
 have HLH:=ze hlh
 have HLL:=ze hll
 have HN6:=ze hG.hN
 have HG:=ze hG
 have HE:=ze he
 obtain ⟨A0,k0,c0,A1,k1,c1,A2,k2,c2,A3,k3,c3,rfl,hn0,hn1,hn2,hn3⟩:=hn
 have hk0:k0=n.nodes.length:=by obtain ⟨A',c',e,_⟩:=hn0;injection e
 have hk1:k1=n.pipes.length:=by obtain ⟨A',c',e,_⟩:=hn1;injection e
 obtain ⟨AC,cc,rfl,hcc,hcm,hcr⟩:=hc
 obtain ⟨AB,cb,rfl,hbc,hbm,hbr⟩:=ha
 have HC:Hid (xT w (.slice AC n.pipes.length cc) n.pipes.length c):=⟨AC,cc,rfl,hcc,hcm,hcr⟩
 have HB:Hid (Zy w (.slice AB bs.length cb) bs):=⟨AB,cb,rfl,hbc,hbm,hbr⟩
 have HBS:=ze hbs
 have HP:=ze hn1
 have h9:=hG.hp
 unfold zwg
 rw [hbs]
 subst hk0
 generalize hPP:n.pipes.length=P at*
 subst hk1
 clear hlh hll hrh hrl he hn0 hn1 hn2 hn3 hh hl hcc hcm hcr hbc hbm hbr hbs hG
 generalize hNN:n.nodes.length=N at*
 have HNN:=ze hNN
 have HPP:=ze hPP
 clear hNN hPP
 have h6:N<=6:=HN6.out
 obtain ⟨T,HT⟩:∃ T,Hid (zr2 n.pf n.pt c (Net.at_ lh) (fun k=>(Net.at_ ll k).getD 0) (fun k=>bs.getD k false) N k1=T):=⟨_,ze rfl⟩
 have hx:=zg w (.cells #[.slice A0 N c0,.slice A1 k1 c1,.slice A2 k2 c2,.slice A3 k3 c3] 26)
 have HK:=ze (Blk.new w 26 #[.slice A0 N c0,.slice A1 k1 c1,.slice A2 k2 c2,.slice A3 k3 c3])
 have HW:=ze hx
 clear hx
 go_enter Tryz.func28,Tryz.ntmps28
 go_wp2_with fail
 go_loopw [12,13] (SlrI w #[.slice A0 N c0,.slice A1 k1 c1,.slice A2 k2 c2,.slice A3 k3 c3] N T) (fun _ iv _=>N - (intOf iv).toNat)
 case atStart=>exact ⟨0,fun _=>0,Nat.zero_le _,rfl,xV.nil _ _ _ _ _,HK,HW⟩
 case round=>
  clear HK HW
  obtain ⟨i,g,hi,rfl,HM,HK,HW⟩:=hrel
  by_cases hlt:i<N
  . skip
    have hii:(i:Int)<(N:Int):=by omega
    have hmk:=fun w=>zu4 .i64 (N+1) (by omega) w
    push_cast at hmk
    go_wp2_with fail;have hx:=zg wr (.cells (Yt (N+1)) 63)
    have HS:Hid (zmd w #[.slice A0 N c0,.slice A1 k1 c1,.slice A2 k2 c2,.slice A3 k3 c3] (N+1) T u12 i g wr.heap.size 0 (fun _=>0) (wr.alloc (.cells (Yt (N+1)) 63))):=
     ⟨HM.out.below hx,zoi _ _ _,by have:=HK.out.lt;omega,fun j hj e=>by have:=(HM.out.rows j hj).2.lt;omega,HK.out.below hx HK.out.lt,ext HW.out hx⟩
    clear HM HK HW hx hmk;generalize wr.alloc (.cells (Yt (N+1)) 63)=W1 at HS |-;generalize wr.heap.size=gl at HS |-
    go_loopw [15] (SlrK w #[.slice A0 N c0,.slice A1 k1 c1,.slice A2 k2 c2,.slice A3 k3 c3] N T u12 i g gl) (fun kv _=>N+1 - (intOf kv).toNat)
    case atStart=>exact ⟨0,Nat.zero_le _,rfl,HS⟩
    case round=>
     clear HS;obtain ⟨k,hk,rfl,HS⟩:=hrel
     by_cases hkl:k<=N
     . have hki:(k:Int)<=(N:Int):=by omega
       go_wp2_with fail;refine (zch _).mono ?_;rintro e w1 ⟨v,rfl,hv,hb1⟩;have HS1:=ze (HS.out.below hb1);obtain ⟨ng,A,n1,c9,B,m,d,rfl,hv0⟩:=hv;have hv1:xu w1 (.agg #[.bool ng,.slice A n1 c9,.slice B m d]) 0:=⟨ng,A,n1,c9,B,m,d,rfl,hv0⟩
       have HS2:=ze (HS1.out.set (k:=k) (nt' :=k+1) (f' :=fun _=>0) (by omega) hv1 (fun j hj=>by
        by_cases e:j=k
        . exact .inl ⟨e,rfl⟩
        exact .inr ⟨e,by omega,rfl⟩))
       obtain ⟨u0,u1,u2,s0,s1,s2⟩:=HS1.out.row.slots (show k<N+1 by omega);have f0:=HS1.out.row.frozen (k*3);have f1:=HS1.out.row.frozen (k*3+1);have f2:=HS1.out.row.frozen (k*3+2);clear hv0 hv1 HS1 HS hb1;have hkn:(k:Int)<(N:Int)+1:=by omega
       go_wp2_with fail;go_round
       case rel=>exact ⟨k+1,by omega,by go_num,HS2⟩
       case measure=>simp [intOf];omega
     obtain rfl:k=N+1:=by omega
     go_wp2_with fail;refine (HLH.out _ HS.out.low i).mono ?_;rintro e w1 ⟨v,rfl,hv,hb1⟩;obtain ⟨fb,HFB⟩:∃ fb,Hid ((lh.find? (fun v=>v.node == (i:Int))).isSome=fb):=⟨_,ze rfl⟩;rw [HFB.out];obtain ⟨ng,A,n1,c9,B,m,d,rfl,hv0⟩:=hv;have hv1:xu w1 (.agg #[.bool ng,.slice A n1 c9,.slice B m d]) (xL (Net.at_ lh) i):=⟨ng,A,n1,c9,B,m,d,rfl,hv0⟩;have hx:=zg w1 (.cells #[.bool ng,.slice A n1 c9,.slice B m d] 63);have HV:=ze (hv1.below hx);have HKB:=ze (Blk.new w1 63 #[.bool ng,.slice A n1 c9,.slice B m d]);have HS1:=ze (HS.out.below (ext hb1 hx));have hne:w1.heap.size≠gl:=by have:=HS.out.row.lt;have:=hb1.size;omega
     have HNE:=ze hne;clear HS hv0 hv1 hx hb1 hne;obtain ⟨ab,HAB⟩:∃ ab,Hid (bs.getD i false=ab):=⟨_,ze rfl⟩;have hibs:i<bs.length:=by have:=HBS.out;omega
     obtain ⟨adB,hbB,ca⟩:∃ ad,AB=some ad/\(w1.alloc (.cells #[.bool ng,.slice A n1 c9,.slice B m d] 63)).cell? (ad.add i)=some (.bool ab):=by
      obtain ⟨A',c',e,_,_,hr⟩:=HB.out.below HS1.out.low;injection e with e1 e2 e3
      subst e1;obtain ⟨ad,u,hA,hb,hu,hcell⟩:=hr.at_ hibs;refine ⟨ad,hA,?_⟩
      have e:u= .bool ab:=by
       have hg:bs[i]?=some ab:=by rw [List.getElem?_eq_getElem hibs];have:=HAB.out;rw [List.getD_eq_getElem?_getD,List.getElem?_eq_getElem hibs] at this;simpa using this
       unfold xU at hu;rw [List.getElem?_map,hg] at hu
       simpa using hu.symm
      rw [<- e];exact hcell
     subst hbB
     have HFR:Hid (zt (Net.at_ lh) (fun k=>bs.getD k false) i=(!fb && ab)):=by
      show zt _ _ i=_
      unfold zt
      have h1:(Net.at_ lh i).isNone= !fb:=by
       rw [<- HFB.out];unfold Net.at_
       cases lh.find? (fun v=>v.node == (i:Int))<;>rfl
      rw [h1,show (fun k=>bs.getD k false) i=ab from HAB.out]
     have HTI:Hid (∀ j,j<N+1->T i j=if zt (Net.at_ lh) (fun k=>bs.getD k false) i=true then (if j=N then -((Net.at_ ll i).getD 0) else yn n.pf n.pt c i k1 j) else (if j=N then xL (Net.at_ lh) i else if j=i then 1 else 0)):=by
      intro j hj;rw [<- HT.out,zew hlt (by omega)]
      rfl
     go_upto_region 12 with fail
     generalize w1.alloc (.cells #[.bool ng,.slice A n1 c9,.slice B m d] 63)=W2 at HV HKB HS1 ca |-;generalize w1.heap.size=gb at HKB HNE |-;obtain ⟨hb,HHB⟩:∃ hb,Hid ((fb || !ab)=hb):=⟨_,ze rfl⟩
     have HFB2:Hid (zt (Net.at_ lh) (fun k=>bs.getD k false) i= !hb):=by
      show _=_
      rw [HFR.out, <- HHB.out]
      cases fb<;>cases ab<;>rfl
     go_cut [63] from 33 to 136 (fun s wc=>s= .bool hb/\wc=W2)
     case first=>
      have h:=HHB.out
      cases fb<;>cases ab<;>simp at h<;>subst h
      all_goals
       go_wp2_with fail;go_meet;exact ⟨rfl,rfl⟩
     obtain ⟨rfl,hwc⟩:=hcut;subst hwc;generalize wc=W2 at HV HKB HS1 |-;clear ca HFR HHB
     go_upto_if 63 with fail
     go_cut [] from 33 to 136 (fun wc=>∃ f,Hid (zmd w #[.slice A0 N c0,.slice A1 k1 c1,.slice A2 k2 c2,.slice A3 k3 c3] (N+1) T u12 i g gl (N+1) f wc)/\Hid (∀ j,j<N+1->T i j=f j))
     case first=>
      cases hb with
      | false=>
         have hfr:zt (Net.at_ lh) (fun k=>bs.getD k false) i=true:=HFB2.out
         have HF:Hid (∀ j,j<N+1->T i j=if j=N then -((Net.at_ ll i).getD 0) else yn n.pf n.pt c i k1 j):=by
          intro j hj;rw [HTI.out j hj,hfr]
          rfl
         have HS3:Hid (zmd w #[.slice A0 N c0,.slice A1 k1 c1,.slice A2 k2 c2,.slice A3 k3 c3] (N+1) T u12 i g gl (N+1) (yn n.pf n.pt c i 0) W2):=HS1.out;clear HS1 HFB2 HTI hfr HV HKB;go_wp2_with fail
         go_loopw [18] (SlrP w #[.slice A0 N c0,.slice A1 k1 c1,.slice A2 k2 c2,.slice A3 k3 c3] N k1 T u12 i g gl (yn n.pf n.pt c i)) (fun kv _=>k1 - (intOf kv).toNat)
         case atStart=>exact ⟨0,Nat.zero_le _,rfl,HS3⟩
         case round=>
          clear HS3;obtain ⟨k,hk,rfl,HS⟩:=hrel;have r1:=HS.out.net.cell 1;simp at r1
          by_cases hkl:k<k1
          rotate_left
          . obtain rfl:k=k1:=by omega
            go_wp2_with fail;refine (HLL.out _ HS.out.low i).mono ?_;rintro e w1 ⟨v,rfl,hv,hb1⟩;obtain ⟨wb,HWB⟩:∃ wb,Hid ((ll.find? (fun v=>v.node == (i:Int))).isSome=wb):=⟨_,ze rfl⟩;rw [HWB.out];obtain ⟨ng2,X,n2,c8,Y,m2,d2,rfl,hv0⟩:=hv;have hv1:xu w1 (.agg #[.bool ng2,.slice X n2 c8,.slice Y m2 d2]) ((Net.at_ ll i).getD 0):=⟨ng2,X,n2,c8,Y,m2,d2,rfl,hv0⟩;have hx:=zg w1 (.cells #[.bool ng2,.slice X n2 c8,.slice Y m2 d2] 63);have HV:=ze (hv1.below hx);have HKB:=ze (Blk.new w1 63 #[.bool ng2,.slice X n2 c8,.slice Y m2 d2]);have HS1:=ze (HS.out.below (ext hb1 hx));clear HS hv0 hv1 hx hb1 r1
            go_upto_region 28 with fail
            generalize w1.alloc (.cells #[.bool ng2,.slice X n2 c8,.slice Y m2 d2] 63)=W2 at HV HKB HS1 |-;generalize w1.heap.size=gb at HKB |-;have b0:=HKB.out.cell 0;have b1:=HKB.out.cell 1;have b2:=HKB.out.cell 2;simp at b0 b1 b2;go_wp2_with fail;refine (VY _ _ _ HV.out).mono ?_;rintro e w2 ⟨v,rfl,hv,hb1⟩;have HS2:=ze (HS1.out.below hb1);clear HS1 b0 b1 b2 HKB HV;obtain ⟨ng,A,n1,c9,B,m,d,rfl,hv0⟩:=hv;have hv1:xu w2 (.agg #[.bool ng,.slice A n1 c9,.slice B m d]) (-((Net.at_ ll i).getD 0)):=⟨ng,A,n1,c9,B,m,d,rfl,hv0⟩;obtain ⟨u0,u1,u2,s0,s1,s2⟩:=HS2.out.row.slots (show N<N+1 by omega);have f0:=HS2.out.row.frozen (N*3);have f1:=HS2.out.row.frozen (N*3+1);have f2:=HS2.out.row.frozen (N*3+2);have hNn:(N:Int)<(N:Int)+1:=by omega
            have HS:=ze (HS2.out.set (k:=N) (nt' :=N+1) (f' :=fun j=>if j=N then -((Net.at_ ll i).getD 0) else yn n.pf n.pt c i k j) (by omega) hv1 (fun j hj=>by
             by_cases e:j=N
             . exact .inl ⟨e,by rw [if_pos e]⟩
             exact .inr ⟨e,hj,by rw [if_neg e]⟩))
            clear HS2 hv0 hv1 hb1;go_wp2_with fail;go_meet;exact ⟨_,HS,HF⟩
          skip
          have hki:(k:Int)<(k1:Int):=by omega
          have hkP:k<n.pipes.length:=by have:=HPP.out;omega
          obtain ⟨ad,e1,hb,p0,p1,p2,p3,p4⟩:=(HP.out.below HS.out.low).at_ hkP;subst e1;obtain ⟨hf1,hf2,ht1,ht2⟩:=HE.out k hkP;rw [hf1] at p1;rw [ht1] at p2;rw [HNN.out] at hf2 ht2;have hii0:i<N:=hlt;generalize hPN:n.pipes[k].name=sn at p0;generalize hPL:n.pipes[k].low=sl at p3;generalize hPH:n.pipes[k].high=sh at p4;clear hPN hPL hPH hf1 ht1;have HRN:=ze (HG.out.row_nl (i:=i) (Nat.le_of_lt hkl) i);have HCN:=ze (HG.out.c_nl hkl);have HMN:=fun o=>ze (HG.out.mid_nl (i:=i) hkl o)
          have hne:=HG.out.piped.ne k hkl;have hi3:(i:Int)<(N:Int)+1:=by omega
          go_upto_region 19 with fail
          have hx:=zg wr (.cells #[str sn,.int .i64 (n.pf k:Int),.int .i64 (n.pt k:Int),str sl,str sh] 41);have HSB:=ze (HS.out.below hx);have hkp:=Blk.new wr 41 #[str sn,.int .i64 (n.pf k:Int),.int .i64 (n.pt k:Int),str sl,str sh];generalize wr.alloc (.cells #[str sn,.int .i64 (n.pf k:Int),.int .i64 (n.pt k:Int),str sl,str sh] 41)=WB at HSB hkp |-;have q1:=hkp.cell 1;have q2:=hkp.cell 2;simp at q1 q2;clear hx HS hb p0 p1 p2 p3 p4 r1 hkp;generalize wr.heap.size=gp at q1 q2 |-
          go_upto_if 87 with fail
          go_cut [20] from 72 to 121 (fun s wc=>wc=WB/\∃ ov:Int,s= .int .i64 ov/\Hid ((ov= -1/\yn n.pf n.pt c i (k+1)=yn n.pf n.pt c i k)\/
           ∃ o:Nat,ov=(o:Int)/\o<N/\o≠i/\∀ j,yn n.pf n.pt c i (k+1) j=if j=o then YS n.pf n.pt c i k o - c k else YS n.pf n.pt c i k j))
          case first=>
           rcases (show n.pf k=i\/(n.pf k≠i/\n.pt k=i)\/(n.pf k≠i/\n.pt k≠i) by omega) with h1 | ⟨h0,h1⟩ | ⟨h0,h1⟩
           . have hI:(((n.pf k:Nat):Int) == (i:Int))=true:=by rw [beq_iff_eq];omega
             have HR:=ze (zom (c:=c) hkl HG.out.piped h1);have HO:Hid (n.pt k<N/\n.pt k≠i):=⟨ht2,fun e=>by omega⟩;clear h1 hne;go_wp2_with fail;go_meet;exact ⟨rfl,_,rfl,.inr ⟨_,rfl,HO.out.1,HO.out.2,HR.out⟩⟩
           . have hI:(((n.pf k:Nat):Int) == (i:Int))=false:=by rw [beq_eq_false_iff_ne];omega
             have hJ:(((n.pt k:Nat):Int) == (i:Int))=true:=by rw [beq_iff_eq];omega
             have HR:=ze (zt5 (c:=c) hkl HG.out.piped h0 h1);have HO:Hid (n.pf k<N/\n.pf k≠i):=⟨hf2,fun e=>by omega⟩;clear h1 hne h0;go_wp2_with fail;go_meet;exact ⟨rfl,_,rfl,.inr ⟨_,rfl,HO.out.1,HO.out.2,HR.out⟩⟩
           . have hI:(((n.pf k:Nat):Int) == (i:Int))=false:=by rw [beq_eq_false_iff_ne];omega
             have hJ:(((n.pt k:Nat):Int) == (i:Int))=false:=by rw [beq_eq_false_iff_ne];omega
             have HR:=ze (zs4 (c:=c) h0 h1);clear h1 hne h0;go_wp2_with fail;go_meet;exact ⟨rfl,_,rfl,.inl ⟨rfl,HR.out⟩⟩
          case rest=>
           clear q1 q2 hne hf2 ht2;obtain ⟨rfl,ov,rfl,HOV⟩:=hcut
           rcases HOV.out with ⟨rfl,HR⟩ | ⟨o,rfl,ho,hoi,HR⟩
           . have HS1:=HSB.out
             rw [<- HR] at HS1;have HS1:=ze HS1;clear HR HOV HSB;go_wp2_with fail;go_round
             case rel=>exact ⟨k+1,by omega,by go_num,HS1⟩
             case measure=>simp [intOf];omega
           . have HO:Hid (o<N/\o≠i):=⟨ho,hoi⟩
             have HR:=ze HR;clear HOV hoi;generalize wc=WB at HSB |-;have ho0:(0:Int)<=(o:Int):=by omega
             have ho1:(o:Int)<(N:Int)+1:=by omega
             go_upto_region 25 with fail
             obtain ⟨na,Xa,xa,ya,Za,za,ta,a0,a1,a2,hra⟩:=HSB.out.row.2 i (by omega);obtain ⟨gc,eC,lC,nb,Xb,xb,yb,Zb,zb,tb,b0,b1,b2,hrb⟩:=(HC.out.below HSB.out.low).at_ hkl;subst eC;have HRA:=ze hra;have HRB:=ze hrb;have aL:=HSB.out.row.lt;clear hra hrb;refine yg (S:=fun w' =>Hid (Below WB.heap.size WB w')/\w'.cell? ⟨gl,i*3,none⟩=some (.bool na)/\w'.cell? ⟨gl,i*3+1,none⟩=some (.slice Xa xa ya)/\w'.cell? ⟨gl,i*3+2,none⟩=some (.slice Za za ta)/\w'.cell? ⟨gc,k*3,none⟩=some (.bool nb)/\w'.cell? ⟨gc,k*3+1,none⟩=some (.slice Xb xb yb)/\w'.cell? ⟨gc,k*3+2,none⟩=some (.slice Zb zb tb)) 10 1 11 rfl (by kernel_rfl) (by kernel_rfl) (by kernel_rfl) rfl (zx (z8 WB) (fun hB=>⟨zk hB aL a0,zk hB aL a1,zk hB aL a2,zk hB lC b0,zk hB lC b1,zk hB lC b2⟩)) ?_ (fun hHeld=>?_)
             . intro _ _ _ _ _ h9;exact h9
             simp only [List.take_succ_cons,List.take_zero]
             iterate 10 (refine xz (v:=?_) ?_ ?_;rotate_left;(focus (as_aux_lemma=>(intro w9 hSw;(try dsimp only at hSw);go_split_ands;go_simp;try with_reducible rfl)));try simp only [Act.put,List.setIfInBounds_toArray,List.set_cons_zero,List.set_cons_succ])
             refine vk ?_;refine HH.ready (rs:=[10]) (by kernel_rfl) (by simp) (by kernel_rfl) ?_;refine zT.cons (o:=_) rfl (fun K hK=>?_) zT.nil
             go_simp
             go_at_call 31;refine (vz _ _ _ _ _ (HRA.out.below (z8 WB).out) (HRB.out.below (z8 WB).out) HRN.out HCN.out).mono ?_;rintro e w1 ⟨v,rfl,hv,hb1⟩;have HV:=ze hv;clear hv;have hH0:=hHeld;clear hHeld;refine hK.out _ _ (zx (zu hb1 hH0.1) (fun hB=>⟨zk hB aL a0,zk hB aL a1,zk hB aL a2,zk hB lC b0,zk hB lC b1,zk hB lC b2⟩)) (fun hHeld=>?_);clear hH0 hK K
             try simp only [Act.put,List.setIfInBounds_toArray,List.set_cons_zero,List.set_cons_succ]
             have HBY:=(hHeld.1).out;replace HSB:=ze (zmd.below HSB.out HBY);clear HBY hHeld;refine HH.done (by kernel_rfl) ?_;simp only [List.drop_succ_cons,List.drop_zero];clear HRA HRB a0 a1 a2 b0 b1 b2 aL lC;obtain ⟨ng,X,n2,c8,Y,m2,d2,rfl,hv0⟩:=HV.out
             have HS2:=ze (HSB.out.set (k:=i) (nt' :=N+1) (f' :=YS n.pf n.pt c i k) (by omega) HV.out (fun j hj=>by
              unfold YS
              by_cases e:j=i
              . exact .inl ⟨e,by rw [if_pos e]⟩
              . exact .inr ⟨e,hj,by rw [if_neg e]⟩))
             obtain ⟨u0,u1,u2,s0,s1,s2⟩:=HSB.out.row.slots (show i<N+1 by omega);have f0:=HSB.out.row.frozen (i*3);have f1:=HSB.out.row.frozen (i*3+1);have f2:=HSB.out.row.frozen (i*3+2);clear hv0 HSB HV
             go_upto_region 26 with fail
             clear s0 s1 s2 f0 f1 f2;obtain ⟨WB,hW9⟩:∃ x,x=World.refAt w1 gl i ng X n2 c8 Y m2 d2:=⟨_,rfl⟩;rw [<- hW9] at HS2;have hW8:((w1.setCell ⟨gl,i*3,none⟩ (.bool ng)).setCell ⟨gl,i*3+1,none⟩ (.slice X n2 c8)).setCell ⟨gl,i*3+2,none⟩ (.slice Y m2 d2)=WB:=hW9.symm;rw [hW8];clear hW8 hW9;obtain ⟨na,Xa,xa,ya,Za,za,ta,a0,a1,a2,hra⟩:=HS2.out.row.2 o (by have:=HO.out.1;omega);obtain ⟨gc',eC,lC,nb,Xb,xb,yb,Zb,zb,tb,b0,b1,b2,hrb⟩:=(HC.out.below HS2.out.low).at_ hkl;injection eC with eC
             injection eC with eC
             subst eC;have HRA:=ze hra;have HRB:=ze hrb;have aL:=HS2.out.row.lt;have HMO:=HMN o;clear hra hrb;refine yg (S:=fun w' =>Hid (Below WB.heap.size WB w')/\w'.cell? ⟨gl,o*3,none⟩=some (.bool na)/\w'.cell? ⟨gl,o*3+1,none⟩=some (.slice Xa xa ya)/\w'.cell? ⟨gl,o*3+2,none⟩=some (.slice Za za ta)/\w'.cell? ⟨gc,k*3,none⟩=some (.bool nb)/\w'.cell? ⟨gc,k*3+1,none⟩=some (.slice Xb xb yb)/\w'.cell? ⟨gc,k*3+2,none⟩=some (.slice Zb zb tb)) 10 1 11 rfl (by kernel_rfl) (by kernel_rfl) (by kernel_rfl) rfl (zx (z8 WB) (fun hB=>⟨zk hB aL a0,zk hB aL a1,zk hB aL a2,zk hB lC b0,zk hB lC b1,zk hB lC b2⟩)) ?_ (fun hHeld=>?_)
             . intro _ _ _ _ _ h9;exact h9
             simp only [List.take_succ_cons,List.take_zero]
             iterate 10 (refine xz (v:=?_) ?_ ?_;rotate_left;(focus (as_aux_lemma=>(intro w9 hSw;(try dsimp only at hSw);go_split_ands;go_simp;try with_reducible rfl)));try simp only [Act.put,List.setIfInBounds_toArray,List.set_cons_zero,List.set_cons_succ])
             refine vk ?_;refine HH.ready (rs:=[10]) (by kernel_rfl) (by simp) (by kernel_rfl) ?_;refine zT.cons (o:=_) rfl (fun K hK=>?_) zT.nil
             go_simp
             go_at_call 33;refine (XF _ _ _ _ _ (HRA.out.below (z8 WB).out) (HRB.out.below (z8 WB).out) HMO.out HCN.out).mono ?_;rintro e w2 ⟨v,rfl,hv,hb1⟩;have HV:=ze hv;clear hv;have hH0:=hHeld;clear hHeld;refine hK.out _ _ (zx (zu hb1 hH0.1) (fun hB=>⟨zk hB aL a0,zk hB aL a1,zk hB aL a2,zk hB lC b0,zk hB lC b1,zk hB lC b2⟩)) (fun hHeld=>?_);clear hH0 hK K
             try simp only [Act.put,List.setIfInBounds_toArray,List.set_cons_zero,List.set_cons_succ]
             have HBY:=(hHeld.1).out;replace HS2:=ze (zmd.below HS2.out HBY);clear HBY hHeld;refine HH.done (by kernel_rfl) ?_;simp only [List.drop_succ_cons,List.drop_zero];clear HRA HRB a0 a1 a2 b0 b1 b2 aL lC HMO;obtain ⟨ng,X,n2,c8,Y,m2,d2,rfl,hv0⟩:=HV.out
             have HS:=ze (HS2.out.set (k:=o) (nt' :=N+1) (f' :=yn n.pf n.pt c i (k+1)) (by have:=HO.out.1;omega) HV.out (fun j hj=>by
              rw [HR.out]
              by_cases e:j=o
              . exact .inl ⟨e,by rw [if_pos e]⟩
              . exact .inr ⟨e,hj,by rw [if_neg e]⟩))
             obtain ⟨u0,u1,u2,s0,s1,s2⟩:=HS2.out.row.slots (show o<N+1 by have:=HO.out.1;omega);have f0:=HS2.out.row.frozen (o*3);have f1:=HS2.out.row.frozen (o*3+1);have f2:=HS2.out.row.frozen (o*3+2);clear hv0 HS2 HV;go_wp2_with fail;go_round
             case rel=>exact ⟨k+1,by omega,by go_num,HS⟩
             case measure=>simp [intOf];omega
      | true=>
         have hfr:zt (Net.at_ lh) (fun k=>bs.getD k false) i=false:=HFB2.out
         have HF:Hid (∀ j,j<N+1->T i j=if j=N then xL (Net.at_ lh) i else if j=i then 1 else 0):=by
          intro j hj;rw [HTI.out j hj,hfr]
          rfl
         clear hfr HFB2 HTI;go_wp2_with fail;refine (zb0 _).mono ?_;rintro e w3 ⟨v,rfl,hv,hb1⟩;have HS2:=ze (HS1.out.below hb1);have HKB2:=ze (HKB.out.below hb1 HKB.out.lt);have HV2:=ze (HV.out.below hb1);obtain ⟨ng2,X,n2,c8,Y,m2,d2,rfl,hv0⟩:=hv;have hv1:xu w3 (.agg #[.bool ng2,.slice X n2 c8,.slice Y m2 d2]) 1:=⟨ng2,X,n2,c8,Y,m2,d2,rfl,hv0⟩
         have HS3:=ze (HS2.out.set (k:=i) (nt' :=N+1) (f' :=fun j=>if j=i then 1 else 0) (by omega) hv1 (fun j hj=>by
          by_cases e:j=i
          . exact .inl ⟨e,by rw [if_pos e]⟩
          exact .inr ⟨e,by omega,by rw [if_neg e]⟩))
         have HKB3:=ze (HS2.out.box (k:=i) (ng:=ng2) (X:=X) (Y:=Y) (n1:=n2) (c:=c8) (n2:=m2) (d:=d2) HKB2.out HNE.out);have HV3:=ze ((YC (w:=w3) (g:=gl) (k:=i) (ng:=ng2) (A:=X) (n:=n2) (c:=c8) (B:=Y) (m:=m2) (d:=d2)).ref HV2.out (fun b e=>by subst e;exact HS2.out.row.noI64));obtain ⟨u0,u1,u2,s0,s1,s2⟩:=HS2.out.row.slots (show i<N+1 by omega);have f0:=HS2.out.row.frozen (i*3);have f1:=HS2.out.row.frozen (i*3+1);have f2:=HS2.out.row.frozen (i*3+2);have hin:(i:Int)<(N:Int)+1:=by omega
         clear hv0 hv1 HS2 HS1 HKB2 HV2 hb1 HKB HV
         go_upto_region 14 with fail
         clear s0 s1 s2 f0 f1 f2;obtain ⟨W4,hW9⟩:∃ x,x=World.refAt w3 gl i ng2 X n2 c8 Y m2 d2:=⟨_,rfl⟩;rw [<- hW9] at HS3;rw [<- hW9] at HKB3;rw [<- hW9] at HV3;have hW8:((w3.setCell ⟨gl,i*3,none⟩ (.bool ng2)).setCell ⟨gl,i*3+1,none⟩ (.slice X n2 c8)).setCell ⟨gl,i*3+2,none⟩ (.slice Y m2 d2)=W4:=hW9.symm;rw [hW8];clear hW8 hW9;have b0:=HKB3.out.cell 0;have b1:=HKB3.out.cell 1;have b2:=HKB3.out.cell 2;simp at b0 b1 b2;obtain ⟨u0,u1,u2,s0,s1,s2⟩:=HS3.out.row.slots (show N<N+1 by omega);have f0:=HS3.out.row.frozen (N*3);have f1:=HS3.out.row.frozen (N*3+1);have f2:=HS3.out.row.frozen (N*3+2);have hNn:(N:Int)<(N:Int)+1:=by omega
         have HS:=ze (HS3.out.set (k:=N) (nt' :=N+1) (f' :=fun j=>if j=N then xL (Net.at_ lh) i else if j=i then 1 else 0) (by omega) HV3.out (fun j hj=>by
          by_cases e:j=N
          . exact .inl ⟨e,by rw [if_pos e]⟩
          exact .inr ⟨e,by omega,by rw [if_neg e]⟩))
         clear HS3 HV3 HKB3;go_wp2_with fail;go_meet;exact ⟨_,HS,HF⟩
     case rest=>
      clear HS1 HKB HV HTI;obtain ⟨f,HS,HF⟩:=hcut;generalize wc=WZ at HS |-;have hone:∀ u∈[hdr (N+1) gl],u.oneCell' =true:=by intro u hu;rw [List.mem_singleton] at hu;subst hu;rfl
      have hnoi:∀ u∈[hdr (N+1) gl],zkq u:=by intro u hu;rw [List.mem_singleton] at hu;subst hu;exact zhc _ _
      have hzn:∀ u∈(Value.slice none 0 0).cells,zkq u:=by intro u hu;simp [Value.cells] at hu;subst hu;exact Z8 _ _ _
      have hsz:w.heap.size+1<=WZ.heap.size:=by have:=HS.out.net.lt;omega
      have hsz2:w.heap.size<=WZ.heap.size:=by omega
      obtain ⟨i0,hi0,hz0,hz1,hz2⟩:=info_parts zvw;have hx:=zg WZ (.cells #[.slice (some ⟨gl,0,none⟩) (N+1) (N+1)] 57);have hnew:=Blk.new WZ 57 #[.slice (some ⟨gl,0,none⟩) (N+1) (N+1)]
      have hcell:∀ (j:Nat) (u:Value),[hdr (N+1) gl][j]?=some u->(WZ.alloc (.cells #[.slice (some ⟨gl,0,none⟩) (N+1) (N+1)] 57)).cell? ((⟨WZ.heap.size,0,none⟩:Addr).add j)=some u:=by
       intro j u hu
       match j with
       | 0=>
         simp at hu;subst hu;have:=hnew.cell 0
         simp [Addr.add,hdr]
       | j+1=>simp at hu
      have HS1:=ze (HS.out.below hx);clear hnew hx;go_wp2_with (at_builtin;go_must (refine Z4 (P:=Tryz.prog) rfl (.tmp 133) (.tmp 135) _ rfl (w.heap.size+1) 57 i0 _ 1 24 Tryz.underlying91 hi0 hz0 hz1 hz2 rfl (by omega) _ i _ rfl HS1.out.mat.own ⟨WZ.heap.size,0,none⟩ 1 1 [hdr (N+1) gl] rfl rfl (by omega) hcell hone hnoi hzn ?o4 ?o5 ?o6 ?_))
      case o4=>unfold maxLen;omega
      case o5=>omega
      case o6=>first | exact hsz | exact hsz2 | (simp;omega)
      intro v3 w3 hown3 hgr3 hat3;have HM3:=ze (HS1.out.mat.push HS1.out.row HS1.out.base HS1.out.ne hown3 hgr3 (fun j hj=>HF.out j hj));have hge:=fun b hb=>(HS1.out.mat.own.1.lt b hb).1
      have HK3:=ze (Blk.grown HS1.out.net hgr3 (fun e=>by have:=hge _ e.symm;omega));have HW3:Hid (Below w.heap.size w w3):=ze (HS1.out.low.grown hgr3 HS1.out.low.size (fun b hb=>by have:=hge b hb;omega));clear hown3 hgr3 hat3 hcell hge HS1 HS hone hnoi hzn hsz hsz2;go_wp2_with fail;go_roundw
      case rel=>exact ⟨i+1,_,by omega,by go_num,HM3,HK3,HW3⟩
      case measure=>simp [intOf];omega
  obtain rfl:N=i:=by omega
  have HEL:Hid (Vc N T zx7 0 T):=by rw [<- HT.out];exact HG.out.relim
  have HFIT:=ze HG.out.rfits;clear HK hlt HP HC HB HLH HLL;go_wp2_with fail
  go_loopw [23] (SlvK w N T u12) (fun kv _=>N - (intOf kv).toNat)
  case atStart=>exact ⟨0,T,g,Nat.zero_le _,rfl,HEL,HM,HW⟩
  case round=>
   clear HM HW HEL;obtain ⟨k,A,g,hk,rfl,HEL,HM,HW⟩:=hrel
   by_cases hkl:k<N
   rotate_left
   . obtain rfl:N=k:=by omega
     have HLT:Hid (∀ j,j<N->g j<wr.heap.size):=fun j hj=>(HM.out.rows j hj).2.lt
     have HLM:Hid (∀ b,u12.ownBlock=some b->b<wr.heap.size):=fun b hb=>(HM.out.own.1.lt b hb).2
     have HLW:=ze HW.out.size;clear hkl;generalize hWE:wr.heap.size=BE at HLT HLM HLW;have HWE:=ze hWE;clear hWE;go_wp2_with fail
     go_loopw [28,29] (SlvO w N u12 g A BE) (fun _ iv _=>N - (intOf iv).toNat)
     case atStart=>exact ⟨0,Nat.zero_le _,rfl,YJ.nil _ _ _,HM,HW,by rw [HWE.out];exact Nat.le_refl _⟩
     case round=>
      clear HM HW HWE;obtain ⟨i,hi2,rfl,HO,HM,HW,HBE⟩:=hrel
      by_cases hil:i<N
      rotate_left
      . obtain rfl:N=i:=by omega
        have HIS:=ze (HG.out.rdone (by rw [HT.out];exact HEL.out));have HDZ:Hid (∀ k,k<N->Dz zzd (A k N / A k k)):=fun k hk=>HEL.out.adz HFIT.out hk
        go_wp2_with fail;go_ret;exact ⟨_,_,rfl,HO.out.nums,HIS.out,HDZ.out,HW.out⟩
      have hii:(i:Int)<(N:Int):=by omega
      have hi1:(i:Int)<(N:Int)+1:=by omega
      have hNn:(N:Int)<(N:Int)+1:=by omega
      obtain ⟨gm,cap,rfl,hgm,_⟩:=HM.out.form (by omega);have d1:=HM.out.cell hil;have mL:=HM.out.lt.2;obtain ⟨na,Xa,xa,ya,Za,za,ta,a0,a1,a2,hra⟩:=(HM.out.rows i hil).2.2 N (by omega);obtain ⟨nb,Xb,xb,yb,Zb,zb,tb,b0,b1,b2,hrb⟩:=(HM.out.rows i hil).2.2 i (by omega);have aL:=(HM.out.rows i hil).2.lt;have HRA:=ze hra;have HRB:=ze hrb;have HN1:=ze (HEL.out.nl (Nat.le_refl _) HFIT.out hil (Nat.le_refl _));have HN2:=ze (HEL.out.nl (Nat.le_refl _) HFIT.out hil (Nat.le_of_lt hil));have HNZ:=ze (HEL.out.1.2.1 i hil).1;obtain ⟨i0,hi0,hz0,hz1,hz2⟩:=info_parts zmt;clear hra hrb hgm
      go_upto_region 50 with fail
      refine yg (S:=fun w' =>Hid (Below wr.heap.size wr w')/\w'.cell? ⟨gm,i,none⟩=some (.slice (some ⟨g i,0,none⟩) (N+1) (N+1))/\w'.cell? ⟨g i,N*3,none⟩=some (.bool na)/\w'.cell? ⟨g i,N*3+1,none⟩=some (.slice Xa xa ya)/\w'.cell? ⟨g i,N*3+2,none⟩=some (.slice Za za ta)/\w'.cell? ⟨g i,i*3,none⟩=some (.bool nb)/\w'.cell? ⟨g i,i*3+1,none⟩=some (.slice Xb xb yb)/\w'.cell? ⟨g i,i*3+2,none⟩=some (.slice Zb zb tb)) 15 2 17 rfl (by kernel_rfl) (by kernel_rfl) (by kernel_rfl) rfl (zx (z8 wr) (fun hB=>⟨zk hB mL d1,zk hB aL a0,zk hB aL a1,zk hB aL a2,zk hB aL b0,zk hB aL b1,zk hB aL b2⟩)) ?_ (fun hHeld=>?_)
      . intro _ _ _ _ _ h9;exact h9
      simp only [List.take_succ_cons,List.take_zero]
      iterate 15 (refine xz (v:=?_) ?_ ?_;rotate_left;(focus (as_aux_lemma=>(intro w9 hSw;(try dsimp only at hSw);go_split_ands;go_simp;try with_reducible rfl)));try simp only [Act.put,List.setIfInBounds_toArray,List.set_cons_zero,List.set_cons_succ])
      refine vk ?_;refine HH.ready (rs:=[15]) (by kernel_rfl) (by simp) (by kernel_rfl) ?_;refine zT.cons (o:=_) rfl (fun K hK=>?_) zT.nil
      go_simp
      go_at_call 43;refine (Yh _ _ _ _ _ (HRA.out.below (z8 wr).out) (HRB.out.below (z8 wr).out) HN1.out HN2.out HNZ.out).mono ?_;rintro e w1 ⟨v,rfl,hv,hb1⟩;have HV:=ze hv;have HBE1:Hid (BE<=w1.heap.size):=ze (Nat.le_trans HBE.out (Nat.le_trans (z8 wr).out.size hb1.size));clear hv;obtain ⟨ng,X,n2,c8,Y,m2,d2,rfl,hv0⟩:=HV.out;clear hv0;have hH0:=hHeld;clear hHeld;refine hK.out _ _ (zx (zu hb1 hH0.1) (fun hB=>⟨zk hB mL d1,zk hB aL a0,zk hB aL a1,zk hB aL a2,zk hB aL b0,zk hB aL b1,zk hB aL b2⟩)) (fun hHeld=>?_);clear hH0 hK K
      try simp only [Act.put,List.setIfInBounds_toArray,List.set_cons_zero,List.set_cons_succ]
      refine HH.ready (rs:=[16]) (by kernel_rfl) (by simp) (by kernel_rfl) ?_;refine zT.cons (o:=_) rfl (fun K hK=>?_) zT.nil
      go_simp
      have hH0:=hHeld;clear hHeld;refine hK.out _ _ (zx (Zj hH0.1) (fun hB=>⟨zk hB mL d1,zk hB aL a0,zk hB aL a1,zk hB aL a2,zk hB aL b0,zk hB aL b1,zk hB aL b2⟩)) (fun hHeld=>?_);clear hH0 hK K
      try simp only [Act.put,List.setIfInBounds_toArray,List.set_cons_zero,List.set_cons_succ]
      have HBY:=(hHeld.1).out;replace HM:=ze (xV.below HM.out HBY);replace HO:=ze (YJ.below HO.out HBY);replace HW:=eb_ HW HBY;clear HBY hHeld;refine HH.done (by kernel_rfl) ?_;simp only [List.drop_succ_cons,List.drop_zero];clear HRA HRB a0 a1 a2 b0 b1 b2 aL mL d1 HN1 HN2 HNZ hb1;have HNK:=ze (Blk.new w1 63 #[.bool ng,.slice X n2 c8,.slice Y m2 d2]);have HVK:=ze (HV.out.below (zg w1 (.cells #[.bool ng,.slice X n2 c8,.slice Y m2 d2] 63)))
      have HBE2:Hid (BE<=(w1.alloc (.cells #[.bool ng,.slice X n2 c8,.slice Y m2 d2] 63)).heap.size):=by
       have:=HBE1.out
       show BE<=_
       rw [World.size_alloc];omega
      have hcell:∀ (j:Nat) (u:Value),[Value.bool ng,.slice X n2 c8,.slice Y m2 d2][j]?=some u->(w1.alloc (.cells #[.bool ng,.slice X n2 c8,.slice Y m2 d2] 63)).cell? ((⟨w1.heap.size,0,none⟩:Addr).add j)=some u:=by
       intro j u hu
       have e:((⟨w1.heap.size,0,none⟩:Addr).add j)=⟨w1.heap.size,j,none⟩:=by
        unfold Addr.add
        by_cases h:j=0
        . subst h;rfl
        . simp [h]
       rw [e,HNK.out.cell j];rw [<- hu]
       simp
      generalize (w1.alloc (.cells #[.bool ng,.slice X n2 c8,.slice Y m2 d2] 63))=WK at HM HO HW HNK HVK HBE2 hcell |-;generalize w1.heap.size=gk at hcell |-;obtain ⟨xs,ho1,ho3⟩:=HO.out;have HO1:=ze ho1;have HO3:=ze ho3;have hone:∀ u∈[Value.bool ng,.slice X n2 c8,.slice Y m2 d2],u.oneCell' =true:=by intro u hu;simp at hu;rcases hu with rfl | rfl | rfl<;>rfl
      have hnoi:∀ u∈[Value.bool ng,.slice X n2 c8,.slice Y m2 d2],zkq u:=by
       intro u hu;simp at hu
       rcases hu with rfl | rfl | rfl
       . exact zfh _
       . exact Z8 _ _ _
       . exact Z8 _ _ _
      have hzn:∀ u∈(Value.agg #[.bool false,.slice none 0 0,.slice none 0 0]).cells,zkq u:=za4 (zgo _ _ _ _ _ _ _);clear ho1 ho3 HO HNK;go_wp2_with (at_builtin;go_loud (refine Z4 (P:=Tryz.prog) rfl (.tmp 236) (.tmp 252) _ rfl BE 63 i0 _ 3 56 Tryz.underlying57 hi0 hz0 hz1 hz2 rfl (by omega) _ i xs rfl HO1.out ⟨gk,0,none⟩ 1 1 [.bool ng,.slice X n2 c8,.slice Y m2 d2] rfl rfl (by omega) hcell hone hnoi hzn ?o4 ?o5 HBE2.out ?_))
      case o4=>unfold maxLen;omega
      case o5=>omega
      intro v3 w3 hown3 hgr3 hat3;have hc:Chg (fun b=>u28.ownBlock=some b) WK w3:=⟨hgr3.os,hgr3.tape,hgr3.output,hgr3.size,fun k hk hS=>hgr3.block k hk (fun e=>hS e.symm)⟩;have hge:=fun b hb=>(HO1.out.1.lt b hb).1
      have HOO:=ze (YJ.push (f' :=fun k=>A k N / A k k) HO1.out HO3.out hown3 hgr3 HVK.out (fun k hk=>rfl) rfl);have HMM:=ze (HM.out.chg hc (fun j hj e=>by have:=hge _ e;have:=HLT.out j hj;omega) (fun b hb e=>by have:=hge _ e;have:=HLM.out b hb;omega) HO1.out.2);have HWW:=ze (HW.out.trans (hc.below HW.out.size (fun b e=>by have:=hge _ e;have:=HLW.out;omega)));have HBE3:=ze (Nat.le_trans HBE2.out hc.size);clear hown3 hgr3 hat3 hcell hone hnoi hzn hc hge HO1 HO3 HM HW HBE1 HBE2 HVK HV;go_wp2_with fail;go_roundw
      case rel=>exact ⟨i+1,by omega,by go_num,HOO,HMM,HWW,HBE3⟩
      case measure=>simp [intOf];omega
   skip
   have hki:(k:Int)<(N:Int):=by omega
   have hk1:(k:Int)<(N:Int)+1:=by omega
   obtain ⟨gm,cap,rfl,hgm⟩:=HM.out.form (by omega);obtain ⟨p0,hp1,hp2,hne⟩:=HEL.out.1.pivot hkl;have HNE:=ze hne;clear hne hgm;go_wp2_with fail
   go_loopw [24] (SlvP w N gm cap g A k p0) (fun pv _=>p0 - (intOf pv).toNat)
   case atStart=>exact ⟨k,Nat.le_refl _,hp1,rfl,HM,HW⟩
   case round=>
    clear HM HW;obtain ⟨p,hp3,hp4,rfl,HM,HW⟩:=hrel;have hpN:p<N:=by omega
    have hpi:(p:Int)<(N:Int):=by omega
    have ch:=HM.out.cell hpN;obtain ⟨na,Xa,xa,ya,Za,za,ta,a0,a1,a2,hra⟩:=(HM.out.rows p hpN).2.2 k (by omega);have hs:=fun w1 (h:Below wr.heap.size wr w1)=>YZ _ _ w1 (hra.below h)
    by_cases hz:A p k=0
    . have hpp:p<p0:=by
       rcases Nat.lt_or_ge p p0 with h | h
       . exact h
       . obtain rfl:p=p0:=by omega
         exact absurd hz HNE.out
      have e:(A p k).num.sign=0:=by rw [hz];rfl
      rw [e] at hs;clear hz e hra;go_wp2_with fail;refine (hs _ (zP _)).mono ?_;rintro e w1 ⟨rfl,hb1⟩;have HM1:=ze (HM.out.below hb1);have HW1:=ze (ext HW.out hb1);clear hb1 hs HM HW;go_wp2_with fail;go_roundw
      case rel=>exact ⟨p+1,by omega,by omega,by go_num,HM1,HW1⟩
      case measure=>simp [intOf];omega
    have e:((A p k).num.sign == 0)=false:=by
     rw [beq_eq_false_iff_ne];intro e;exact hz (by have:=Int.sign_eq_zero_iff_zero.1 e;exact Rat.num_eq_zero.1 this)
    generalize hsg:(A p k).num.sign=sg at e hs;have HZ:=ze hz;clear hz hra hsg;go_wp2_with fail;refine (hs _ (zP _)).mono ?_;rintro e w1 ⟨rfl,hb1⟩;have HM1:=ze (HM.out.below hb1);have HW1:=ze (ext HW.out hb1);clear hb1 hs HM HW ch a0 a1 a2;have c1:=HM1.out.cell hpN;have c2:=HM1.out.cell hkl;have f1:=HM1.out.frozen p;have f2:=HM1.out.frozen k;have gL:=HM1.out.lt.2;have HM2:=ze (HM1.out.swap hkl hpN)
    obtain ⟨u,hu⟩:∃ u,(w1.setCell ⟨gm,p,none⟩ (.slice (some ⟨g k,0,none⟩) (N+1) (N+1))).cell? ⟨gm,k,none⟩=some u:=by
     by_cases e:p=k
     rotate_left
     . exact ⟨_,(World.cell?_setCell_other w1 _ _ _ (fun h=>e (by injection h with _ h2))).trans c2⟩
     subst e
     exact ⟨_,World.cell?_setCell_same w1 _ _ (by rw [c1])⟩
    go_upto_region 36 with fail
    go_region
    have HM3:=ze (HM2.out.below (z8 _).out)
    have HW3:Hid (Below w.heap.size w (((w1.setCell ⟨gm,p,none⟩ (.slice (some ⟨g k,0,none⟩) (N+1) (N+1))).setCell ⟨gm,k,none⟩ (.slice (some ⟨g p,0,none⟩) (N+1) (N+1))).drew)):=by
     have:=HM1.out.lt.1;exact zo ((HW1.out.setCell (p:=⟨gm,p,none⟩) (by show w.heap.size<=gm;omega) _).setCell (p:=⟨gm,k,none⟩) (by show w.heap.size<=gm;omega) _) 1
    have HEB:=ze (HEL.out.swapped hp3 hpN);have HB0:Hid (swapped A k p k k≠0):=ze (by unfold swapped;rw [if_pos rfl];exact HZ.out);have HM4:Hid (xV (w.heap.size+1) _ (.slice (some ⟨gm,0,none⟩) N cap) (N+1) N (fun i=>if i=k then g p else if i=p then g k else g i) (swapped A k p)):=HM3.out;clear HM1 HM2 HM3 HW1 c1 c2 f1 f2 hu gL HZ HNE HEL e;generalize ((w1.setCell ⟨gm,p,none⟩ (.slice (some ⟨g k,0,none⟩) (N+1) (N+1))).setCell ⟨gm,k,none⟩ (.slice (some ⟨g p,0,none⟩) (N+1) (N+1))).drew=W2 at HM4 HW3 |-;generalize (fun i=>if i=k then g p else if i=p then g k else g i)=g2 at HM4;generalize swapped A k p=B at HM4 HEB HB0;clear hp3 hp4 hpi hpN;go_wp2_with fail
    go_loopw [25] (SlvI w N gm cap g2 k B) (fun iv _=>N - (intOf iv).toNat)
    case atStart=>exact ⟨0,Nat.zero_le _,rfl,by rw [zf8];exact HM4,HW3⟩
    case round=>
     clear HM4 HW3;obtain ⟨i,hi2,rfl,HM,HW⟩:=hrel
     by_cases hil:i<N
     rotate_left
     . obtain rfl:i=N:=by omega
       have HEN:=ze (HEB.out.freed hkl HB0.out);go_wp2_with fail;go_roundw
       case rel=>exact ⟨k+1,_,g2,by omega,by go_num,HEN,HM,HW⟩
       case measure=>simp [intOf];omega
     have hii:(i:Int)<(N:Int):=by omega
     by_cases hik:i=k
     . have hd:((i:Int) == (k:Int))=true:=by rw [beq_iff_eq];omega
       have HS:=ze (V0 (A:=B) (k:=k) (i:=i) (.inl hik));have HM1:Hid (xV (w.heap.size+1) wr (.slice (some ⟨gm,0,none⟩) N cap) (N+1) N g2 (freed B k (i+1))):=by rw [HS.out];exact HM
       clear hik HM HS;go_wp2_with fail;go_round
       case rel=>exact ⟨i+1,by omega,by go_num,HM1,HW⟩
       case measure=>simp [intOf];omega
     have hd:((i:Int) == (k:Int))=false:=by rw [beq_eq_false_iff_ne];omega
     have HIK:=ze hik;have ch:=HM.out.cell hil;obtain ⟨na,Xa,xa,ya,Za,za,ta,a0,a1,a2,hra⟩:=(HM.out.rows i hil).2.2 k (by omega);rw [zfq] at hra;have hs:=fun w1 (h:Below wr.heap.size wr w1)=>YZ _ _ w1 (hra.below h)
     by_cases hz:B i k=0
     . have e:(B i k).num.sign=0:=by rw [hz];rfl
       rw [e] at hs;have HS:=ze (V0 (A:=B) (k:=k) (i:=i) (.inr hz));have HM1:Hid (xV (w.heap.size+1) wr (.slice (some ⟨gm,0,none⟩) N cap) (N+1) N g2 (freed B k (i+1))):=by rw [HS.out];exact HM
       clear hik hz e HM hra HS;go_wp2_with fail;refine (hs _ (zP _)).mono ?_;rintro e w1 ⟨rfl,hb1⟩;have HM2:=ze (HM1.out.below hb1);have HW1:=ze (ext HW.out hb1);clear hb1 hs HM1 HW;go_wp2_with fail;go_round
       case rel=>exact ⟨i+1,by omega,by go_num,HM2,HW1⟩
       case measure=>simp [intOf];omega
     have e:((B i k).num.sign == 0)=false:=by
      rw [beq_eq_false_iff_ne];intro e;exact hz (by have:=Int.sign_eq_zero_iff_zero.1 e;exact Rat.num_eq_zero.1 this)
     generalize hsg:(B i k).num.sign=sg at e hs;clear hz hik hra hsg;go_wp2_with fail;refine (hs _ (zP _)).mono ?_;rintro e w1 ⟨rfl,hb1⟩;have HM1:=ze (HM.out.below hb1);have HW1:=ze (ext HW.out hb1);clear hb1 hs HM HW ch a0 a1 a2
     go_upto_region 41 with fail
     go_cut [26] from 168 to 230 (fun s wc=>∃ gb,s= .pointer (some ⟨gb,0,none⟩)/\Hid (zas wc gb (B i k / B k k))/\Hid (∀ j,j<N->g2 j≠gb)/\Hid (xV (w.heap.size+1) wc (.slice (some ⟨gm,0,none⟩) N cap) (N+1) N g2 (freed B k i))/\Hid (Below w.heap.size w wc))
     case first=>
      skip
      have c1:=HM1.out.cell hil;have c2:=HM1.out.cell hkl;have mL:=HM1.out.lt.2;obtain ⟨na,Xa,xa,ya,Za,za,ta,a0,a1,a2,hra⟩:=(HM1.out.rows i hil).2.2 k (by omega);obtain ⟨nb,Xb,xb,yb,Zb,zb,tb,b0,b1,b2,hrb⟩:=(HM1.out.rows k hkl).2.2 k (by omega);have aL:=(HM1.out.rows i hil).2.lt;have bL:=(HM1.out.rows k hkl).2.lt;rw [zfq] at hra;rw [zgd] at hrb;have HRA:=ze hra;have HRB:=ze hrb;have HN1:=ze (HEB.out.nl (Nat.le_of_lt hkl) HFIT.out hil (Nat.le_of_lt hkl));have HN2:=ze (HEB.out.nl (Nat.le_of_lt hkl) HFIT.out hkl (Nat.le_of_lt hkl));have HLT:Hid (∀ j,j<N->g2 j<w1.heap.size):=fun j hj=>(HM1.out.rows j hj).2.lt
      have HGML:=ze mL;have HW1L:=ze HW1.out.size;clear hra hrb;refine yg (S:=fun w' =>Hid (Below w1.heap.size w1 w')/\w'.cell? ⟨gm,i,none⟩=some (.slice (some ⟨g2 i,0,none⟩) (N+1) (N+1))/\w'.cell? ⟨gm,k,none⟩=some (.slice (some ⟨g2 k,0,none⟩) (N+1) (N+1))/\w'.cell? ⟨g2 i,k*3,none⟩=some (.bool na)/\w'.cell? ⟨g2 i,k*3+1,none⟩=some (.slice Xa xa ya)/\w'.cell? ⟨g2 i,k*3+2,none⟩=some (.slice Za za ta)/\w'.cell? ⟨g2 k,k*3,none⟩=some (.bool nb)/\w'.cell? ⟨g2 k,k*3+1,none⟩=some (.slice Xb xb yb)/\w'.cell? ⟨g2 k,k*3+2,none⟩=some (.slice Zb zb tb)) 14 2 16 rfl (by kernel_rfl) (by kernel_rfl) (by kernel_rfl) rfl (zx (z8 w1) (fun hB=>⟨zk hB mL c1,zk hB mL c2,zk hB aL a0,zk hB aL a1,zk hB aL a2,zk hB bL b0,zk hB bL b1,zk hB bL b2⟩)) ?_ (fun hHeld=>?_)
      . intro _ _ _ _ _ h9;exact h9
      simp only [List.take_succ_cons,List.take_zero]
      iterate 14 (refine xz (v:=?_) ?_ ?_;rotate_left;(focus (as_aux_lemma=>(intro w9 hSw;(try dsimp only at hSw);go_split_ands;go_simp;try with_reducible rfl)));try simp only [Act.put,List.setIfInBounds_toArray,List.set_cons_zero,List.set_cons_succ])
      refine vk ?_;refine HH.ready (rs:=[14,15]) (by kernel_rfl) (by simp) (by kernel_rfl) ?_;refine zT.cons (o:=_) rfl (fun K hK=>?_) (zT.cons (o:=_) rfl (fun K hK=>?_) zT.nil)
      . skip
        go_simp
        go_at_call 43;refine (Yh _ _ _ _ _ (HRA.out.below (z8 w1).out) (HRB.out.below (z8 w1).out) HN1.out HN2.out HB0.out).mono ?_;rintro e w2 ⟨v,rfl,hv,hb1⟩;have HV:=ze hv;have HB12:=zu hb1 (z8 w1);have HMW:=ze (HM1.out.below HB12.out);have HWW:=ze (ext HW1.out HB12.out);clear hv HM1 HW1;have hH0:=hHeld;clear hHeld;refine hK.out _ _ (zx (zu hb1 hH0.1) (fun hB=>⟨zk hB mL c1,zk hB mL c2,zk hB aL a0,zk hB aL a1,zk hB aL a2,zk hB bL b0,zk hB bL b1,zk hB bL b2⟩)) (fun hHeld=>?_);clear hH0 hK K
        try simp only [Act.put,List.setIfInBounds_toArray,List.set_cons_zero,List.set_cons_succ]
        refine HH.ready (rs:=[15]) (by kernel_rfl) (by simp) (by kernel_rfl) ?_;refine zT.cons (o:=_) rfl (fun K hK=>?_) zT.nil
        go_simp
        have hH0:=hHeld;clear hHeld;refine hK.out _ _ (zx (Zj hH0.1) (fun hB=>⟨zk hB mL c1,zk hB mL c2,zk hB aL a0,zk hB aL a1,zk hB aL a2,zk hB bL b0,zk hB bL b1,zk hB bL b2⟩)) (fun hHeld=>?_);clear hH0 hK K
        try simp only [Act.put,List.setIfInBounds_toArray,List.set_cons_zero,List.set_cons_succ]
        refine HH.done (by kernel_rfl) ?_;simp only [List.drop_succ_cons,List.drop_zero];clear HRA HRB a0 a1 a2 b0 b1 b2 aL bL mL c1 c2 HN1 HN2 hHeld;obtain ⟨ng,X,n2,c8,Y,m2,d2,rfl,hv0⟩:=HV.out;clear hv0;go_wp2_with fail;go_meet;have hx:=zg w2 (.cells #[.bool ng,.slice X n2 c8,.slice Y m2 d2] 63);refine ⟨w2.heap.size,rfl,⟨ng,X,n2,c8,Y,m2,d2,Blk.new _ _ _,HV.out.below hx⟩,fun j hj e=>?_,HMW.out.below hx,ext HWW.out hx⟩;have:=HLT.out j hj;have:=HB12.out.size
        omega
      . skip
        go_simp
        have HKN:=(Blk.new w1 63 #[.bool false,.slice none 0 0,.slice none 0 0]).drew;have hH0:=hHeld;clear hHeld;refine hK.out _ _ (zx (zL w1 _) (fun hB=>⟨zk hB mL c1,zk hB mL c2,zk hB aL a0,zk hB aL a1,zk hB aL a2,zk hB bL b0,zk hB bL b1,zk hB bL b2⟩)) (fun hHeld=>?_);clear hH0 hK K
        try simp only [Act.put,List.setIfInBounds_toArray,List.set_cons_zero,List.set_cons_succ]
        refine HH.ready (rs:=[14]) (by kernel_rfl) (by simp) (by kernel_rfl) ?_;refine zT.cons (o:=_) rfl (fun K hK=>?_) zT.nil
        go_simp
        go_at_call 43;refine (Yh _ _ _ _ _ (HRA.out.below (zL w1 _).out) (HRB.out.below (zL w1 _).out) HN1.out HN2.out HB0.out).mono ?_;rintro e w2 ⟨v,rfl,hv,hb1⟩;have HV:=ze hv;have HB12:=zu hb1 (zL w1 _);have HMW:=ze (HM1.out.below HB12.out);have HWW:=ze (ext HW1.out HB12.out);have HKB:=ze (HKN.below hb1 HKN.lt);clear hv HM1 HW1 HKN;have hH0:=hHeld;clear hHeld;refine hK.out _ _ (zx (zu hb1 hH0.1) (fun hB=>⟨zk hB mL c1,zk hB mL c2,zk hB aL a0,zk hB aL a1,zk hB aL a2,zk hB bL b0,zk hB bL b1,zk hB bL b2⟩)) (fun hHeld=>?_);clear hH0 hK K
        try simp only [Act.put,List.setIfInBounds_toArray,List.set_cons_zero,List.set_cons_succ]
        refine HH.done (by kernel_rfl) ?_;simp only [List.drop_succ_cons,List.drop_zero];clear HRA HRB a0 a1 a2 b0 b1 b2 aL bL mL c1 c2 HN1 HN2 hHeld hb1;obtain ⟨ng,X,n2,c8,Y,m2,d2,rfl,hv0⟩:=HV.out;clear hv0;have r0:=HKB.out.cell 0;have r1:=HKB.out.cell 1;have r2:=HKB.out.cell 2;have f0:=HKB.out.frozen 0;have f1:=HKB.out.frozen 1;have f2:=HKB.out.frozen 2;simp at r0 r1 r2;go_wp2_with fail;go_meet
        have hc:Chg (fun b=>b=w1.heap.size) w2 (World.ref w2 w1.heap.size ng X n2 c8 Y m2 d2):=
         Chg.setCell (S:=fun b=>b=w1.heap.size) (Chg.setCell (S:=fun b=>b=w1.heap.size) (Chg.setCell (S:=fun b=>b=w1.heap.size) (Chg.refl w2) (p:=⟨w1.heap.size,0,none⟩) rfl _) (p:=⟨w1.heap.size,1,none⟩) rfl _) (p:=⟨w1.heap.size,2,none⟩) rfl _
        have hS:∀ b,b=w1.heap.size->YO w2 b:=fun b e=>by subst e;exact HKB.out.noI64 (zgo _ _ _ _ _ _ _)
        have hne:∀ j,j<N->g2 j≠w1.heap.size:=fun j hj e=>by have:=HLT.out j hj;omega
        have hmL:=HGML.out;refine ⟨w1.heap.size,rfl,⟨ng,X,n2,c8,Y,m2,d2,yL HKB.out,hc.ref HV.out hS⟩,hne,HMW.out.chg hc hne (fun b hb e=>?_) hS,zZ HWW.out HW1L.out⟩;have:gm=b:=by simpa [Value.ownBlock] using hb
        omega
     case rest=>
      clear HM1 HW1;obtain ⟨gb,rfl,HFB,HFN,HM,HW⟩:=hcut;have HQN:=ze (HEB.out.qnl hkl HFIT.out hil (Nat.le_of_lt hkl) HB0.out);go_wp2_with fail
      go_loopw [27] (SlvC w N gm cap g2 k i gb B) (fun cv _=>N+1 - (intOf cv).toNat)
      case atStart=>exact ⟨k,Nat.le_refl _,by omega,rfl,by rw [zg4];exact HM,HFB,HW⟩
      case round=>
       clear HM HFB HW;obtain ⟨cq,hc1,hc2,rfl,HM,HFB,HW⟩:=hrel
       by_cases hcl:cq<=N
       rotate_left
       . obtain rfl:cq=N+1:=by omega
         have HM1:Hid (xV (w.heap.size+1) wr (.slice (some ⟨gm,0,none⟩) N cap) (N+1) N g2 (freed B k (i+1))):=by
          have h:=HM.out;rw [ziz HEB.out hkl HIK.out] at h;exact h
         clear HM;go_wp2_with fail;go_roundw
         case rel=>exact ⟨i+1,by omega,by go_num,HM1,HW⟩
         case measure=>simp [intOf];omega
       have hci:(cq:Int)<=(N:Int):=by omega
       have hci1:(cq:Int)<(N:Int)+1:=by omega
       have d1:=HM.out.cell hil;have d2:=HM.out.cell hkl;have mL:=HM.out.lt.2;obtain ⟨na,Xa,xa,ya,Za,za,ta,a0,a1,a2,hra⟩:=(HM.out.rows i hil).2.2 cq (by omega);obtain ⟨nb,Xb,xb,yb,Zb,zb,tb,b0,b1,b2,hrb⟩:=(HM.out.rows k hkl).2.2 cq (by omega);obtain ⟨nf,Xf,xf,yf,Zf,zf,tf,hkf,hrf⟩:=HFB.out;have e0:=hkf.cell 0;have e1:=hkf.cell 1;have e2:=hkf.cell 2;simp at e0 e1 e2;have eL:=hkf.lt;have aL:=(HM.out.rows i hil).2.lt;have bL:=(HM.out.rows k hkl).2.lt;rw [zm7 (Nat.le_refl _)] at hra;rw [zv2 HIK.out] at hrb;have HRA:=ze hra;have HRB:=ze hrb;have HRF:=ze hrf;have HN1:=ze (HEB.out.nl (Nat.le_of_lt hkl) HFIT.out hil hcl);have HN2:=ze (HEB.out.nl (Nat.le_of_lt hkl) HFIT.out hkl hcl);have HN3:=ze (HEB.out.pnl hkl HFIT.out hil hcl HB0.out);clear hra hrb hrf hkf
       go_upto_region 45 with fail
       refine yg (S:=fun w' =>Hid (Below wr.heap.size wr w')/\w'.cell? ⟨gm,i,none⟩=some (.slice (some ⟨g2 i,0,none⟩) (N+1) (N+1))/\w'.cell? ⟨gm,k,none⟩=some (.slice (some ⟨g2 k,0,none⟩) (N+1) (N+1))/\w'.cell? ⟨g2 i,cq*3,none⟩=some (.bool na)/\w'.cell? ⟨g2 i,cq*3+1,none⟩=some (.slice Xa xa ya)/\w'.cell? ⟨g2 i,cq*3+2,none⟩=some (.slice Za za ta)/\w'.cell? ⟨g2 k,cq*3,none⟩=some (.bool nb)/\w'.cell? ⟨g2 k,cq*3+1,none⟩=some (.slice Xb xb yb)/\w'.cell? ⟨g2 k,cq*3+2,none⟩=some (.slice Zb zb tb)/\w'.cell? ⟨gb,0,none⟩=some (.bool nf)/\w'.cell? ⟨gb,1,none⟩=some (.slice Xf xf yf)/\w'.cell? ⟨gb,2,none⟩=some (.slice Zf zf tf)) 20 2 22 rfl (by kernel_rfl) (by kernel_rfl) (by kernel_rfl) rfl (zx (z8 wr) (fun hB=>⟨zk hB mL d1,zk hB mL d2,zk hB aL a0,zk hB aL a1,zk hB aL a2,zk hB bL b0,zk hB bL b1,zk hB bL b2,zk hB eL e0,zk hB eL e1,zk hB eL e2⟩)) ?_ (fun hHeld=>?_)
       . intro _ _ _ _ _ h9;exact h9
       simp only [List.take_succ_cons,List.take_zero]
       iterate 20 (refine xz (v:=?_) ?_ ?_;rotate_left;(focus (as_aux_lemma=>(intro w9 hSw;(try dsimp only at hSw);go_split_ands;go_simp;try with_reducible rfl)));try simp only [Act.put,List.setIfInBounds_toArray,List.set_cons_zero,List.set_cons_succ])
       refine vk ?_;refine HH.ready (rs:=[20]) (by kernel_rfl) (by simp) (by kernel_rfl) ?_;refine zT.cons (o:=_) rfl (fun K hK=>?_) zT.nil
       go_simp
       go_at_call 32;refine (Zp _ _ _ _ _ (HRF.out.below (z8 wr).out) (HRB.out.below (z8 wr).out) HQN.out HN2.out).mono ?_;rintro e w1 ⟨v,rfl,hv,hb1⟩;have HV:=ze hv;clear hv;have hH0:=hHeld;clear hHeld;refine hK.out _ _ (zx (zu hb1 hH0.1) (fun hB=>⟨zk hB mL d1,zk hB mL d2,zk hB aL a0,zk hB aL a1,zk hB aL a2,zk hB bL b0,zk hB bL b1,zk hB bL b2,zk hB eL e0,zk hB eL e1,zk hB eL e2⟩)) (fun hHeld=>?_);clear hH0 hK K
       try simp only [Act.put,List.setIfInBounds_toArray,List.set_cons_zero,List.set_cons_succ]
       refine HH.ready (rs:=[21]) (by kernel_rfl) (by simp) (by kernel_rfl) ?_;refine zT.cons (o:=_) rfl (fun K hK=>?_) zT.nil
       go_simp
       go_at_call 33;refine (XF _ _ _ _ _ (HRA.out.below hHeld.1.out) HV.out HN1.out HN3.out).mono ?_;rintro e w2 ⟨v2,rfl,hv,hb2⟩;have HV2:=ze hv;clear hv;have hH0:=hHeld;clear hHeld;refine hK.out _ _ (zx (zu hb2 hH0.1) (fun hB=>⟨zk hB mL d1,zk hB mL d2,zk hB aL a0,zk hB aL a1,zk hB aL a2,zk hB bL b0,zk hB bL b1,zk hB bL b2,zk hB eL e0,zk hB eL e1,zk hB eL e2⟩)) (fun hHeld=>?_);clear hH0 hK K
       try simp only [Act.put,List.setIfInBounds_toArray,List.set_cons_zero,List.set_cons_succ]
       have HBY:=(hHeld.1).out;replace HM:=ze (xV.below HM.out HBY);replace HFB:=ze (zas.below HFB.out HBY);replace HW:=eb_ HW HBY;clear HBY hHeld;refine HH.done (by kernel_rfl) ?_;simp only [List.drop_succ_cons,List.drop_zero];clear HRA HRB HRF HV a0 a1 a2 b0 b1 b2 e0 e1 e2 eL aL bL mL d1 d2 HN1 HN2 HN3;obtain ⟨ng,X,n2,c8,Y,m2,d2,rfl,hv0⟩:=HV2.out;have HMS:=ze (HM.out.set (A' :=zio B k i (cq+1)) hil (show cq<N+1 by omega) HV2.out (fun i' k' =>by rw [<- zmy hc1]));have HFS:=ze (HFB.out.chg (YC (w:=w2) (g:=g2 i) (k:=cq) (ng:=ng) (A:=X) (n:=n2) (c:=c8) (B:=Y) (m:=m2) (d:=d2)) (fun e=>HFN.out i hil e.symm) (fun b e=>by subst e;exact (HM.out.rows i hil).2.noI64));have HWS:=ze (show Below w.heap.size w (World.refAt w2 (g2 i) cq ng X n2 c8 Y m2 d2) from HW.out.trans ((YC (w:=w2) (g:=g2 i)).below HW.out.size (fun b e=>by have:=(HM.out.rows i hil).1;omega)));obtain ⟨u0,u1,u2,s0,s1,s2⟩:=(HM.out.rows i hil).2.slots (show cq<N+1 by omega);have f0:=(HM.out.rows i hil).2.frozen (cq*3);have f1:=(HM.out.rows i hil).2.frozen (cq*3+1)
       have f2:=(HM.out.rows i hil).2.frozen (cq*3+2);clear hv0 HM HFB HW HV2 hb1 hb2;go_wp2_with fail;go_roundw
       case rel=>exact ⟨cq+1,by omega,by omega,by go_num,HMS,HFS,HWS⟩
       case measure=>simp [intOf];omega
def NmbR (cs:List (List UInt8)) (w:World) (ov iv:Value) (wr:World):Prop:=
 ∃ i:Nat,i<=cs.length/\iv= .int .i64 i/\Hid (∀ j,j<i->(zp (cs.getD j [])).isSome=true)/\Hid (YJ wr w.heap.size ov i (zl cs))/\Hid (Below w.heap.size w wr)
def zwe (cs:List (List UInt8)) (w:World) (e:Ending) (w' :World):Prop:=
 Below w.heap.size w w' /\(((∃ j,j<cs.length/\(zp (cs.getD j [])).isSome=false)/\e= .returned (.tuple #[.slice none 0 0,.bool false]))\/
  ((∀ j,j<cs.length->(zp (cs.getD j [])).isSome=true)/\∃ v,e= .returned (.tuple #[v,.bool true])/\xT w' v cs.length (zl cs)))
theorem zdx (v:Value) (cs:List (List UInt8)) (w:World) (hc:yY w v cs):
 Calls Tryz.prog 36 #[v] w (zwe cs w):=by
 have HCN:=ze hc
 obtain ⟨Ac,cc,rfl,hcc,hcm,h1000,hcr,hsm⟩:=hc
 have HSM:=ze hsm
 clear hcc hcm hcr hsm
 unfold zwe
 go_enter Tryz.func36,Tryz.ntmps36
 go_wp2_with fail
 go_loopw [4,5] (NmbR cs w) (fun _ iv _=>cs.length - (intOf iv).toNat)
 case atStart=>exact ⟨0,Nat.zero_le _,rfl,fun j h=>by omega,YJ.nil _ _ _,zP _⟩
 case round=>
  obtain ⟨i,hi,rfl,HD,HO,HW⟩:=hrel
  by_cases hil:i<cs.length
  rotate_left
  . obtain rfl:i=cs.length:=by omega
    have HDD:=ze HD.out;go_wp2_with fail;go_ret2;exact ⟨HW.out,.inr ⟨HDD.out,_,rfl,HO.out.nums⟩⟩
  have hii:(i:Int)<(cs.length:Int):=by omega
  obtain ⟨ac,e2,lc,qc⟩:=Vw (HCN.out.below HW.out) hil;subst e2;have hci:zV cs[i]:=HSM.out _ (List.getElem_mem hil);have hge:cs.getD i []=cs[i]:=by simp [List.getD,List.getElem?_eq_getElem hil]
  have h1:=fun w=>VF ⟨(cs[i]).toArray⟩ w (yE hci)
  rw [yy] at h1;have HGE:=ze hge;clear hge hci;go_wp2_with fail;refine (h1 _).mono ?_;rintro e w1 ⟨v,b,rfl,⟨ng,X,n1,c8,Y,n2,c9,rfl⟩,hb,hq,hb1⟩;have hx:=zg w1 (.cells #[.bool ng,.slice X n1 c8,.slice Y n2 c9] 63);have HO1:=ze (HO.out.below (ext hb1 hx));have HW1:=ze (ext HW.out (ext hb1 hx));have HK1:=ze (Blk.new w1 63 #[.bool ng,.slice X n1 c8,.slice Y n2 c9]);have HQ:Hid (∀ q,zp cs[i]=some q->xu (w1.alloc (.cells #[.bool ng,.slice X n1 c8,.slice Y n2 c9] 63)) (.agg #[.bool ng,.slice X n1 c8,.slice Y n2 c9]) q):=fun q h=>(hq q h).below hx
  have HBB:=ze hb;clear HO HW lc qc hb1 h1 hx hq hb
  cases b with
  | false=>
    have HFI:Hid (∃ j,j<cs.length/\(zp (cs.getD j [])).isSome=false):=⟨i,hil,by rw [HGE.out];exact HBB.out.symm⟩;go_wp2_with fail;go_ret2;exact ⟨HW1.out,.inl ⟨HFI.out,rfl⟩⟩
  | true=>
    obtain ⟨q,hq⟩:=Option.isSome_iff_exists.1 HBB.out.symm;have HV:=ze (HQ.out q hq);have HCO:Hid (zl cs i=q):=by show _=_;unfold zl vS;rw [HGE.out,hq];rfl
    have HSI:Hid ((zp (cs.getD i [])).isSome=true):=by show _=_;rw [HGE.out,hq];rfl
    clear hq HQ HBB HGE
    go_upto_region 8 with fail
    generalize w1.alloc (.cells #[.bool ng,.slice X n1 c8,.slice Y n2 c9] 63)=W2 at HO1 HW1 HK1 HV |-;generalize w1.heap.size=gb at HK1 |-;have r0:=HK1.out.cell 0;have r1:=HK1.out.cell 1;have r2:=HK1.out.cell 2;simp at r0 r1 r2;have hx:=zg W2 (.cells #[.bool ng,.slice X n1 c8,.slice Y n2 c9] 63);have HO2:=ze (HO1.out.below hx);have HW2:=ze (ext HW1.out hx);have HV2:=ze (HV.out.below hx);have HN2:=ze (Blk.new W2 63 #[.bool ng,.slice X n1 c8,.slice Y n2 c9]);clear hx HO1 HW1 HV HK1;go_wp2_with (at_builtin;go_loud (refine Xs rfl (.tmp 24) (.tmp 26) rfl w.heap.size _ i (zl cs) (zl cs) rfl HO2.out W2.heap.size 1 rfl HN2.out HV2.out (by omega) HW2.out.size (fun _ _=>rfl) HCO.out ?_));intro v5 w5 hO5 hc5 hg5;have HO5:=ze hO5;have HW5:=ze (HW2.out.trans (hc5.below HW2.out.size (fun b e=>(hg5 b e).1)));clear hO5 hc5 hg5 HO2 HW2 HN2 HV2 r0 r1 r2;go_wp2_with fail;go_roundw
    case rel=>
     refine ⟨i+1,by omega,by go_num,fun j hj=>?_,HO5,HW5⟩
     rcases Nat.lt_or_ge j i with h | h
     . exact HD.out j h
     . obtain rfl:j=i:=by omega
       exact HSI.out
    case measure=>simp [intOf];omega
theorem zj4 {n:Net} (h:n.err=0):n.nodes.length<=24/\n.pipes.length<=48:=by
 have h5:=(Net.err_zero h).1
 have h1:=h5.1.1.1.1.1
 have h2:=h5.1.1.2.1
 omega
def Z6 (N a:Nat):List Bool:=(List.replicate N false).set a true
theorem ze1 {N a:Nat} (ha:a<N) (k:Nat):(Z6 N a)[k]?=some true↔k=a:=by
 unfold Z6
 rw [List.getElem?_set]
 by_cases h:a=k
 . subst h;simp [ha]
 rw [if_neg h,List.getElem?_replicate]
 constructor
 rotate_left
 . intro h2;exact absurd h2.symm h
 intro h2
 split at h2
 . cases h2
 cases h2
theorem Xi {np N a k:Nat} {pf pt:Nat->Nat} (ha:a<N):xg np pf pt (fun k=>(Z6 N a)[k]?=some true) k↔xg np pf pt (fun k=>(k:Int)∈[(a:Int)]) k:=
 ⟨fun h=>h.mono fun j hj=>by have:=(ze1 ha j).1 hj;simp [this],fun h=>h.mono fun j hj=>(ze1 ha j).2 (by simp at hj;omega)⟩
open Classical in
theorem zej (vn:Value) (n:Net) (a b:Int) (w:World) (hn:Zw w vn n) (h0:n.err=0):Calls Tryz.prog 27 #[vn,.int .i64 a,.int .i64 b] w (vO w (.int .i64 (xY n a b))):=by
 have HNET:=ze hn
 have HEN:=ze (Net.err_zero h0).1.1.1.ends
 have HSM:=ze (zj4 h0)
 obtain ⟨r,HR⟩:∃ r,Hid (xY n a b=r):=⟨_,ze rfl⟩
 rw [HR.out]
 unfold xY at HR
 obtain ⟨A0,k0,c0,A1,k1,c1,A2,k2,c2,A3,k3,c3,rfl,hn0,hn1,hn2,hn3⟩:=hn
 have hk0:k0=n.nodes.length:=by obtain ⟨A',c',e,_⟩:=hn0;injection e
 have hk24:k0<=24:=by have:=HSM.out.1;omega
 have ha:=fun w=>Vx A0 k0 c0 (.slice A1 k1 c1) (.slice A2 k2 c2) (.slice A3 k3 c3) a w
 have hb:=fun w=>Vx A0 k0 c0 (.slice A1 k1 c1) (.slice A2 k2 c2) (.slice A3 k3 c3) b w
 rw [<- hk0] at HR
 have HK0:=ze hk0
 clear hn0 hn1 hn2 hn3 hk0 h0
 have HW:=ze (zg w (.cells #[.slice A0 k0 c0,.slice A1 k1 c1,.slice A2 k2 c2,.slice A3 k3 c3] 26))
 have HK:=ze (Blk.new w 26 #[.slice A0 k0 c0,.slice A1 k1 c1,.slice A2 k2 c2,.slice A3 k3 c3])
 obtain ⟨r0,r1,r2,r3,rL⟩:=yG HK.out
 by_cases g1:0<=a/\a<(k0:Int)
 rotate_left
 . have ea:(decide (0<=a) && decide (a<(k0:Int)))=false:=by
    rw [Bool.and_eq_false_iff,decide_eq_false_iff_not,decide_eq_false_iff_not];omega
   rw [ea] at ha;have HF:Hid (r=7):=ze (by have:=HR.out;rw [if_pos (by omega)] at this;exact this.symm);clear HR ea g1 hb
   go_enter Tryz.func27,Tryz.ntmps27
   go_wp2_with fail;refine (ha _).mono ?_;rintro e WN ⟨rfl,hbB⟩
   try clear r0 r1 r2 r3 rL
   replace HK:=kb_ HK hbB;replace HW:=eb_ HW hbB;clear hbB;obtain ⟨r0,r1,r2,r3,rL⟩:=yG HK.out;clear ha;go_wp2_with fail;go_ret;exact ⟨zr HF.out,HW.out⟩
 have ea:(decide (0<=a) && decide (a<(k0:Int)))=true:=by simp [g1]
 rw [ea] at ha
 by_cases g2:0<=b/\b<(k0:Int)
 rotate_left
 . have eb:(decide (0<=b) && decide (b<(k0:Int)))=false:=by
    rw [Bool.and_eq_false_iff,decide_eq_false_iff_not,decide_eq_false_iff_not];omega
   rw [eb] at hb;have HF:Hid (r=7):=ze (by have:=HR.out;rw [if_pos (by omega)] at this;exact this.symm);clear HR ea eb g1 g2
   go_enter Tryz.func27,Tryz.ntmps27
   go_wp2_with fail;refine (ha _).mono ?_;rintro e WN ⟨rfl,hbB⟩
   try clear r0 r1 r2 r3 rL
   replace HK:=kb_ HK hbB;replace HW:=eb_ HW hbB;clear hbB;obtain ⟨r0,r1,r2,r3,rL⟩:=yG HK.out;go_wp2_with fail;refine (hb _).mono ?_;rintro e WN ⟨rfl,hbB⟩
   try clear r0 r1 r2 r3 rL
   replace HK:=kb_ HK hbB;replace HW:=eb_ HW hbB;clear hbB;obtain ⟨r0,r1,r2,r3,rL⟩:=yG HK.out;clear ha hb;go_wp2_with fail;go_ret;exact ⟨zr HF.out,HW.out⟩
 have eb:(decide (0<=b) && decide (b<(k0:Int)))=true:=by simp [g2]
 rw [eb] at hb;have HR2:=HR.out;rw [if_neg (by omega)] at HR2;clear ea eb
 by_cases gab:a=b
 . have HF:Hid (r=1):=ze (by rw [if_pos gab] at HR2;exact HR2.symm)
   have hI:(a == b)=true:=by rw [beq_iff_eq];exact gab
   clear HR HR2 gab
   go_enter Tryz.func27,Tryz.ntmps27
   go_wp2_with fail;refine (ha _).mono ?_;rintro e WN ⟨rfl,hbB⟩
   try clear r0 r1 r2 r3 rL
   replace HK:=kb_ HK hbB;replace HW:=eb_ HW hbB;clear hbB;obtain ⟨r0,r1,r2,r3,rL⟩:=yG HK.out;go_wp2_with fail;refine (hb _).mono ?_;rintro e WN ⟨rfl,hbB⟩
   try clear r0 r1 r2 r3 rL
   replace HK:=kb_ HK hbB;replace HW:=eb_ HW hbB;clear hbB;obtain ⟨r0,r1,r2,r3,rL⟩:=yG HK.out;clear ha hb;go_wp2_with fail;go_ret;exact ⟨zr HF.out,HW.out⟩
 have hI:(a == b)=false:=by rw [beq_eq_false_iff_ne];exact gab
 rw [if_neg gab] at HR2;obtain ⟨an,rfl⟩:∃ an:Nat,a=(an:Int):=⟨a.toNat,by omega⟩;obtain ⟨bn,rfl⟩:∃ bn:Nat,b=(bn:Int):=⟨b.toNat,by omega⟩;have han:an<k0:=by omega
 have hbn:bn<k0:=by omega
 have HRJ:Hid (r=if xg n.pipes.length n.pf n.pt (fun k=>(Z6 k0 an)[k]?=some true) bn then 0 else 9):=by
  show _=_
  rw [<- HR2];have e:(bn:Int).toNat=bn:=by omega
  rw [e]
  by_cases h:xg n.pipes.length n.pf n.pt (fun k=>(k:Int)∈[(an:Int)]) bn
  . rw [if_pos h,if_pos ((Xi han).2 h)]
  rw [if_neg h,if_neg (fun h2=>h ((Xi han).1 h2))]
 have hai:(an:Int)<(k0:Int):=by omega
 have hbi:(bn:Int)<(k0:Int):=by omega
 have hmk:=fun w=>za7 .i64 k0 (by omega) w
 have HBN:=ze hbn;clear HR HR2 gab g1 g2
 go_enter Tryz.func27,Tryz.ntmps27
 go_wp2_with fail;refine (ha _).mono ?_;rintro e WN ⟨rfl,hbB⟩
 try clear r0 r1 r2 r3 rL
 replace HK:=kb_ HK hbB;replace HW:=eb_ HW hbB;clear hbB;obtain ⟨r0,r1,r2,r3,rL⟩:=yG HK.out;go_wp2_with fail;refine (hb _).mono ?_;rintro e WN ⟨rfl,hbB⟩
 try clear r0 r1 r2 r3 rL
 replace HK:=kb_ HK hbB;replace HW:=eb_ HW hbB;clear hbB;obtain ⟨r0,r1,r2,r3,rL⟩:=yG HK.out;clear ha hb
 go_upto_region 6 with fail
 have hx:=zg WN (.cells (xU (List.replicate k0 false)).toArray 4)
 have hbm:vK (WN.alloc (.cells (xU (List.replicate k0 false)).toArray 4)) WN.heap.size (List.replicate k0 false) []:=by
  unfold vK;rw [List.append_nil];exact Blk.new WN 4 _
 have HBM:=ze hbm;have hgw:w.heap.size<WN.heap.size:=HK.out.lt;clear r0 r1 r2 r3 rL hbm hmk;replace HK:=kb_ HK hx;replace HW:=eb_ HW hx;clear hx;generalize WN.alloc (.cells (xU (List.replicate k0 false)).toArray 4)=WM at HK HW HBM |-;generalize WN.heap.size=g at HBM hgw |-;have hal:an<(List.replicate k0 false).length:=by simp;exact han
 have c1:=HBM.out.cell hal;have f1:=HBM.out.frozen an;have HB3:Hid (vK _ g (Z6 k0 an) []):=HBM.out.set_ hal true;have hgn:w.heap.size≠g:=by omega
 have HK3:=ze (HK.out.far (p:=⟨g,an,none⟩) hgn (.bool true));have HW3:=ze (HW.out.setCell (p:=⟨g,an,none⟩) (by show w.heap.size<=g;omega) (.bool true));generalize (List.replicate k0 false)[an]=x at c1;clear hal HBM HK HW
 go_upto_region 7 with fail
 clear c1 f1;generalize WM.setCell ⟨g,an,none⟩ (.bool true)=WS at HB3 HK3 HW3 |-;have HK:=HK3;have HW:=HW3;clear HK3 HW3;obtain ⟨r0,r1,r2,r3,rL⟩:=yG HK.out;have hol:(Z6 k0 an).length=k0:=by simp [Z6]
 have HOL:=ze hol;have hrd:=HB3.out.reads;have hvb:Zy WS (.slice (some ⟨g,0,none⟩) k0 k0) (Z6 k0 an):=⟨some ⟨g,0,none⟩,k0,by rw [hol],by omega,by unfold maxLen;omega,hrd⟩;have hj:=zcl (.agg #[.slice A0 k0 c0,.slice A1 k1 c1,.slice A2 k2 c2,.slice A3 k3 c3]) (.slice (some ⟨g,0,none⟩) k0 k0) n (Z6 k0 an) WS (HNET.out.below HW.out) hvb HEN.out (by rw [hol];exact HK0.out) (by omega) (by omega);clear hol hrd hvb HB3;go_wp2_with fail;refine hj.mono ?_;rintro e WJ ⟨v,l,rfl,hv,hm,hbB⟩;clear r0 r1 r2 r3 rL hj;replace HK:=kb_ HK hbB;replace HW:=eb_ HW hbB;clear hbB;obtain ⟨A9,c9,rfl,hc1,hc2,hr⟩:=hv;have hll:l.length=k0:=by rw [hm.len];exact HK0.out.symm
 obtain ⟨ad9,u,rfl,hb9,hx,hcell⟩:=hr.at_ (show bn<l.length by omega);have hbl:bn<l.length:=by omega
 rw [show (xU l)[bn]?=some (.bool l[bn]) by simp [xU,hbl]] at hx;injection hx with hx
 subst hx;have HJI:=ze (hm.iff bn);have HLL:=ze hll;clear hm hr hll
 cases hlb:l[bn] with
 | true=>
   have HF:Hid (r=0):=ze (by rw [HRJ.out,if_pos (HJI.out.1 (by rw [List.getElem?_eq_getElem hbl,hlb]))]);rw [hlb] at hcell;clear hlb HJI HRJ;go_wp2_with fail;go_ret;exact ⟨zr HF.out,HW.out⟩
 | false=>
   have HF:Hid (r=9):=ze (by
    rw [HRJ.out,if_neg];intro h;have h2:=HJI.out.2 h;rw [List.getElem?_eq_getElem hbl,hlb] at h2
    cases h2)
   rw [hlb] at hcell;clear hlb HJI HRJ;go_wp2_with fail;go_ret;exact ⟨zr HF.out,HW.out⟩
end Go.Proofs.YtacfcmdlgebhgaaGreat
