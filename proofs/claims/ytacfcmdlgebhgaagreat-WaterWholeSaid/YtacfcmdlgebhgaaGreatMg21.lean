/- Parts of the proof: memory, numbers, walks of the functions that are called. -/
import Derived.Test.YtacfcmdlgebhgaaGreatMg19
import Derived.Test.YtacfcmdlgebhgaaGreatMg20
set_option linter.unusedVariables false
set_option linter.unusedSimpArgs false
set_option maxRecDepth 100000
set_option maxHeartbeats 32000000
namespace Go.Proofs.YtacfcmdlgebhgaaGreat
open Go.RowKit Go.Deep
attribute [local go_sem ↓] Go.wp_at_zero Go.wp_at_succ
attribute [local go_sem] zjv zoy zit zmi
def xI (zs:List Int) (N k:Nat):List Bool:=(List.range N).map fun (j:Nat)=>decide ((j:Int)∈zs.take k)
theorem Vj (zs:List Int) (N k:Nat):(xI zs N k).length=N:=by simp [xI]
theorem zhi (zs:List Int) (N:Nat):xI zs N 0=List.replicate N false:=by
 apply List.ext_getElem
 . simp [xI]
 intro i h1 h2;simp [xI]
theorem zhh {zs:List Int} {N k a:Nat} (hk:k<zs.length) (ha:zs[k]=(a:Int)):(xI zs N k).set a true=xI zs N (k+1):=by
 apply List.ext_getElem
 . simp [xI]
 intro i h1 h2
 rw [List.getElem_set];simp only [xI,List.getElem_map,List.getElem_range];rw [List.take_succ_eq_append_getElem hk,ha]
 by_cases h:a=i
 . subst h;simp
 have h3:¬ (i:Int)=(a:Int):=by omega
 simp [h,h3]
theorem zct {zs:List Int} {N k:Nat}:(xI zs N zs.length)[k]?=some true↔k<N/\(k:Int)∈zs:=by
 unfold xI
 rw [List.take_length]
 rcases Nat.lt_or_ge k N with h | h
 . rw [List.getElem?_map,List.getElem?_range h]
   simp only [Option.map_some,Option.some.injEq,decide_eq_true_eq];exact ⟨fun h2=>⟨h,h2⟩,fun h2=>h2.2⟩
 . rw [List.getElem?_eq_none (by simp;omega)]
   constructor
   . intro h2;cases h2
   rintro ⟨h2,_⟩;omega
theorem YG.of_ints {n:Net} {zs:List Int} {N:Nat} (hN:N=n.nodes.length) (hz:∀ z∈zs,0<=z/\z<n.nodes.length):YG n (fun k=>(k:Int)∈zs) (xI zs N zs.length):=by
 refine ⟨by rw [Vj,hN],fun k hk=>zct.2 ⟨?_,hk⟩,fun k hk=>.base (zct.1 hk).2⟩
 have:=(hz _ hk).2
 omega
def Vy (w:World) (v:Value) (zs:List Int):Prop:=∃ A c,v= .slice A zs.length c/\zs.length<=c/\c<=maxLen/\zs.length<=1000/\zK w w.heap.size 1 A zs.length (VD zs)
theorem Vy.below {w w' :World} {v:Value} {zs:List Int} (h:Vy w v zs) (hb:Below w.heap.size w w'):Vy w' v zs:=by
 obtain ⟨A,c,h1,h2,h3,h5,h4⟩:=h
 exact ⟨A,c,h1,h2,h3,h5,(h4.below hb).more hb.size⟩
theorem Vy.at_ {w:World} {A:Option Addr} {n c:Nat} {zs:List Int} (h:Vy w (.slice A n c) zs) {k:Nat} (hk:k<zs.length):
 ∃ ad,A=some ad/\ad.block<w.heap.size/\w.cell? (ad.add k)=some (.int .i64 zs[k]):=by
 obtain ⟨A',c',e,h2,h3,_,h4⟩:=h
 injection e with e1 e2 e3
 subst e1 e2 e3
 obtain ⟨ad,rfl,hb,hc⟩:=h4.2 (by omega)
 exact ⟨ad,rfl,hb,hc k _ (by simp [VD,hk])⟩
def SeaJ (d:Nat) (n:Net) (S:Nat->Prop) (N g:Nat) (Af:Option Addr) (nf cf:Nat) (w:World) (csA:Array Value) (gk:Nat) (a:Act) (wr:World):Prop:=
 ∃ (l:List Bool) (u3 u6 u7 u8 u9 u10 u11 u12 u13 u14 u15 u16 u17 u18 u19 u20 u21 u22 u23 u24 u25 u26 u27 u28 u29 u30 u31 u32 u33 u34 u35 u36 u37 u38 u39 u40 u41 u42 u43 u44 u45 u46 u47 u48 u49 u50 u51:Value),gk=2*YE l+d/\a={ tmps:=#[.agg csA,.slice Af nf cf,.pointer (some ⟨w.heap.size,0,none⟩),u3,.slice none 0 0,.slice (some ⟨g,0,none⟩) N N,u6,u7,u8,u9,u10,u11,u12,u13,u14,u15,u16,u17,u18,u19,u20,u21,u22,u23,u24,u25,u26,u27,u28,u29,u30,u31,u32,u33,u34,u35,u36,u37,u38,u39,u40,u41,u42,u43,u44,u45,u46,u47,u48,u49,u50,u51],defers:=[] }/\Hid (YG n S l)/\Hid (vK wr g l [])/\Hid (Blk wr w.heap.size 26 csA)/\Hid (Below w.heap.size w wr)
def SeaM (zs:List Int) (N g:Nat) (w:World) (cs:Array Value) (iv:Value) (wr:World):Prop:=
 ∃ i:Nat,i<=zs.length/\iv= .int .i64 i/\Hid (vK wr g (xI zs N i) [])/\Hid (Blk wr w.heap.size 26 cs)/\Hid (Below w.heap.size w wr)
def SeaI (n:Net) (l:List Bool) (g:Nat) (w:World) (cs:Array Value) (iv:Value) (wr:World):Prop:=
 ∃ i:Nat,i<=n.pipes.length/\iv= .int .i64 i/\Hid (∀ m,m<i->l[n.pf m]?=l[n.pt m]?)/\Hid (vK wr g l [])/\Hid (Blk wr w.heap.size 26 cs)/\Hid (Below w.heap.size w wr)
theorem Vt (vn vf:Value) (n:Net) (zs:List Int) (w:World) (hn:Zw w vn n) (hf:Vy w vf zs) (he:n.Ends) (hN:0<n.nodes.length) (hz:∀ z∈zs,0<=z/\z<n.nodes.length):
 Calls Tryz.prog 21 #[vn,vf] w (zm9 n (fun k=>(k:Int)∈zs) w):=by
 obtain ⟨A0,k0,c0,A1,k1,c1,A2,k2,c2,A3,k3,c3,rfl,hn0,hn1,hn2,hn3⟩:=hn
 obtain ⟨Af,cf,rfl,hc1,hc2,h1000,hr⟩:=hf
 have HZS:Hid (Vy w (.slice Af zs.length cf) zs):=ze ⟨Af,cf,rfl,hc1,hc2,h1000,hr⟩
 have hk0:k0=n.nodes.length:=by obtain ⟨A',c',e,_⟩:=hn0;injection e
 have hk1:k1=n.pipes.length:=by obtain ⟨A',c',e,_⟩:=hn1;injection e
 have hb0:k0<=1000:=by obtain ⟨A',c',e,_,_,h6,_⟩:=hn0;omega
 have hb1:k1<=1000:=by obtain ⟨A',c',e,_,_,h6,_⟩:=hn1;omega
 have hp0:0<k0:=by omega
 have HW:=ze (zg w (.cells #[.slice A0 k0 c0,.slice A1 k1 c1,.slice A2 k2 c2,.slice A3 k3 c3] 26))
 have HK:=ze (Blk.new w 26 #[.slice A0 k0 c0,.slice A1 k1 c1,.slice A2 k2 c2,.slice A3 k3 c3])
 have HN1:=ze hn1
 have HK0:=ze hk0
 have HK1:=ze hk1
 have HEN:=ze he
 have HZ:=ze hz
 have hmk:=fun w=>za7 .i64 k0 (by omega) w
 clear hn0 hn1 hn2 hn3 hk0 hk1 he hz hN hr hc2
 go_enter Tryz.func21,Tryz.ntmps21
 go_wp2_with fail
 refine zj3 (SeaJ 1 n (fun k=>(k:Int)∈zs) k0 (w.heap.size+1) Af zs.length cf w #[.slice A0 k0 c0,.slice A1 k1 c1,.slice A2 k2 c2,.slice A3 k3 c3]) (SeaJ 0 n (fun k=>(k:Int)∈zs) k0 (w.heap.size+1) Af zs.length cf w #[.slice A0 k0 c0,.slice A1 k1 c1,.slice A2 k2 c2,.slice A3 k3 c3]) rfl rfl ?_ ?_ ?_
 . clear HW HK hmk
   rintro gk a wr ⟨l,u3,u6,u7,u8,u9,u10,u11,u12,u13,u14,u15,u16,u17,u18,u19,u20,u21,u22,u23,u24,u25,u26,u27,u28,u29,u30,u31,u32,u33,u34,u35,u36,u37,u38,u39,u40,u41,u42,u43,u44,u45,u46,u47,u48,u49,u50,u51,hgk,rfl,HM,HI,HK,HW⟩;have HGK:=ze hgk;clear hgk;obtain ⟨r0,r1,r2,r3,rL⟩:=yG HK.out;go_wp2_with fail
   try clear r0 r1 r2 r3 rL
   go_loopw [27] (SeaI n l (w.heap.size+1) w #[.slice A0 k0 c0,.slice A1 k1 c1,.slice A2 k2 c2,.slice A3 k3 c3]) (fun iv _=>n.pipes.length - (intOf iv).toNat)
   case atStart=>exact ⟨0,Nat.zero_le _,rfl,fun m hm=>by omega,HI,HK,HW⟩
   case round=>
    clear HI HK HW;obtain ⟨i,hi,rfl,HC,HI,HK,HW⟩:=hrel;obtain ⟨r0,r1,r2,r3,rL⟩:=yG HK.out
    by_cases hlt:i<n.pipes.length
    rotate_left
    . obtain rfl:i=n.pipes.length:=by omega
      have hk:(k1:Int)=(n.pipes.length:Int):=by have:=HK1.out;omega
      have HF:=ze (HM.out.done HC.out);have HLL:=ze (show l.length=k0 by rw [HF.out.len,HK0.out]);go_wp2_with fail;simp only [zit];go_ret;exact ⟨.slice (some ⟨w.heap.size+1,0,none⟩) k0 k0,l,rfl,⟨some ⟨w.heap.size+1,0,none⟩,k0,by rw [HLL.out],Nat.le_of_eq HLL.out,by unfold maxLen;omega,by have:=HI.out.reads;exact this⟩,HF.out,HW.out⟩
    obtain ⟨ad,e1,hb,p0,p1,p2,p3,p4⟩:=(HN1.out.below HW.out).at_ hlt
    subst e1;obtain ⟨q1,q2,q3,q4⟩:=HEN.out i hlt;rw [q1] at p1;rw [q3] at p2;have hll:l.length=k0:=by rw [HM.out.len,HK0.out]
    have hla:n.pf i<l.length:=by have:=HK0.out;omega
    have hlb:n.pt i<l.length:=by have:=HK0.out;omega
    have hla2:(n.pf i:Int)<(k0:Int):=by omega
    have hlb2:(n.pt i:Int)<(k0:Int):=by omega
    have ba:=HI.out.cell hla;have bb:=HI.out.cell hlb;have lg:=HI.out.lt;have hi1:i<k1:=by have:=HK1.out;omega
    clear q1 q2 q3 q4 hll;go_wp2_with fail;have hx:=zg wr (.cells #[str n.pipes[i].name,.int .i64 (n.pf i:Int),.int .i64 (n.pt i:Int),str n.pipes[i].low,str n.pipes[i].high] 41);have hbp:=Blk.new wr 41 #[str n.pipes[i].name,.int .i64 (n.pf i:Int),.int .i64 (n.pt i:Int),str n.pipes[i].low,str n.pipes[i].high];have hgq:w.heap.size+1≠wr.heap.size:=by omega
    have ba:=(hx.cell (p:=⟨w.heap.size+1,n.pf i,none⟩) lg).trans ba;have bb:=(hx.cell (p:=⟨w.heap.size+1,n.pt i,none⟩) lg).trans bb
    try clear r0 r1 r2 r3 rL
    replace HK:=kb_ HK hx;replace HW:=eb_ HW hx;replace HI:=ze (HI.out.below hx);generalize wr.alloc (.cells #[str n.pipes[i].name,.int .i64 (n.pf i:Int),.int .i64 (n.pt i:Int),str n.pipes[i].low,str n.pipes[i].high] 41)=WP at hbp ba bb HK HW HI |-;generalize wr.heap.size=q at hbp hgq lg |-;have c1:=hbp.cell 1;have c2:=hbp.cell 2;have lq:=hbp.lt;simp at c1 c2;clear hbp hx;have fa:=HI.out.frozen (n.pf i);have fb:=HI.out.frozen (n.pt i);clear lg;have lg:=HI.out.lt
    by_cases hne:l[n.pf i]=l[n.pt i]
    . have hI:(!l[n.pf i] == l[n.pt i])=false:=by rw [hne];simp
      have HNE:=ze (show l[n.pf i]?=l[n.pt i]? by rw [List.getElem?_eq_getElem hla,List.getElem?_eq_getElem hlb,hne]);clear hne;generalize l[n.pf i]=x at ba hI;generalize l[n.pt i]=y at bb hI
      go_quiet (fail)
      go_wp2_with fail;go_round
      case rel=>
       refine ⟨i+1,by omega,by go_num,?_,HI.out.below (zw _ _),HK.out.below (zw _ _) HK.out.lt,ext HW.out (zw _ _)⟩;intro m hm
       rcases Nat.lt_or_ge m i with h3 | h3
       . exact HC.out m h3
       . obtain rfl:m=i:=by omega
         exact HNE.out
      case measure=>simp [intOf];omega
    have hI:(!l[n.pf i] == l[n.pt i])=true:=by simpa using hne
    have HB:=ze (HM.out.both hlt hla hlb hne);have HFB:=ze (zeo hla hlb hne);have hab:¬ n.pf i=n.pt i:=fun e=>hne (by simp only [e])
    have hba:¬ n.pt i=n.pf i:=fun e=>hab e.symm
    clear hne;generalize l[n.pf i]=x at ba hI;generalize l[n.pt i]=y at bb hI
    go_quiet (fail)
    go_wp2_with fail;have hq:=zw WP nq;have c1:=(hq.cell (p:=⟨q,1,none⟩) lq).trans c1;have c2:=(hq.cell (p:=⟨q,2,none⟩) lq).trans c2;have ba:=(hq.cell (p:=⟨w.heap.size+1,n.pf i,none⟩) lg).trans ba;have bb:=(hq.cell (p:=⟨w.heap.size+1,n.pt i,none⟩) lg).trans bb;clear fa fb;replace HK:=kb_ HK hq;replace HW:=eb_ HW hq;replace HI:=ze (HI.out.below hq);generalize WP.drewN nq=WQ at hq HK HW HI c1 c2 ba bb |-;have lq2:q<WQ.heap.size:=Nat.lt_of_lt_of_le lq hq.size;have lg2:=HI.out.lt;have fa:=HI.out.frozen (n.pf i);have fb:=HI.out.frozen (n.pt i);clear hq lq lg nq
    go_region
    all_goals
     go_wp2_with fail
     go_step3
     simp only [Exit.inBlock,Exit.then];refine Or.inl ⟨rfl,2*YE (both l (n.pf i) (n.pt i))+1,by have h1:=HFB.out;have h2:=HGK.out;omega,both l (n.pf i) (n.pt i),_,_,_,_,_,_,_,_,_,_,_,_,_,_,_,_,_,_,_,_,_,_,_,_,_,_,_,_,_,_,_,_,_,_,_,_,_,_,_,_,_,_,_,_,_,_,_,rfl,rfl,HB,?_,?_,?_⟩
     . first
        | exact ((HI.out.below (zw WQ 1)).set_ hla true).set_ (k:=n.pt i) (by rw [List.length_set];exact hlb) true
        | (unfold both;rw [List.set_comm _ _ hab];exact ((HI.out.below (zw WQ 1)).set_ hlb true).set_ (k:=n.pf i) (by rw [List.length_set];exact hla) true)
     . exact ((HK.out.below (zw WQ 1) HK.out.lt).far (by simp only;omega) _).far (by simp only;omega) _
     . exact ((ext HW.out (zw WQ 1)).setCell (by simp only;omega) _).setCell (by simp only;omega) _
 . clear HW HK hmk
   rintro gk a wr ⟨l,u3,u6,u7,u8,u9,u10,u11,u12,u13,u14,u15,u16,u17,u18,u19,u20,u21,u22,u23,u24,u25,u26,u27,u28,u29,u30,u31,u32,u33,u34,u35,u36,u37,u38,u39,u40,u41,u42,u43,u44,u45,u46,u47,u48,u49,u50,u51,hgk,rfl,HM,HI,HK,HW⟩;have HGK:=ze hgk;clear hgk;go_wp2_with fail
   go_step3
   exact Or.inr ⟨rfl,2*YE l,by have:=HGK.out;omega,l,_,_,_,_,_,_,_,_,_,_,_,_,_,_,_,_,_,_,_,_,_,_,_,_,_,_,_,_,_,_,_,_,_,_,_,_,_,_,_,_,_,_,_,_,_,_,_,rfl,rfl,HM,HI,HK,HW⟩
 . intro H1
   have H1' :=ze H1;clear H1;obtain ⟨r0,r1,r2,r3,rL⟩:=yG HK.out;go_wp2_with fail;have hx:=zg (w.alloc (.cells #[.slice A0 k0 c0,.slice A1 k1 c1,.slice A2 k2 c2,.slice A3 k3 c3] 26)) (.cells (xU (List.replicate k0 false)).toArray 4)
   have hbm:vK ((w.alloc (.cells #[.slice A0 k0 c0,.slice A1 k1 c1,.slice A2 k2 c2,.slice A3 k3 c3] 26)).alloc (.cells (xU (List.replicate k0 false)).toArray 4)) (w.heap.size+1) (xI zs k0 0) []:=by
    rw [zhi];unfold vK;rw [List.append_nil];have h:=Blk.new (w.alloc (.cells #[.slice A0 k0 c0,.slice A1 k1 c1,.slice A2 k2 c2,.slice A3 k3 c3] 26)) 4 (xU (List.replicate k0 false)).toArray;simp only [World.size_alloc] at h;exact h
   have HBM:=ze hbm;clear hmk hbm
   try clear r0 r1 r2 r3 rL
   replace HK:=kb_ HK hx;replace HW:=eb_ HW hx;clear hx;generalize (w.alloc (.cells #[.slice A0 k0 c0,.slice A1 k1 c1,.slice A2 k2 c2,.slice A3 k3 c3] 26)).alloc (.cells (xU (List.replicate k0 false)).toArray 4)=WM at HK HW HBM |-
   go_loopw [16] (SeaM zs k0 (w.heap.size+1) w #[.slice A0 k0 c0,.slice A1 k1 c1,.slice A2 k2 c2,.slice A3 k3 c3]) (fun iv _=>zs.length - (intOf iv).toNat)
   case atStart=>exact ⟨0,Nat.zero_le _,rfl,HBM,HK,HW⟩
   case round=>
    clear HK HW HBM;obtain ⟨i,hi,rfl,HBM,HK,HW⟩:=hrel
    by_cases hlt:i<zs.length
    rotate_left
    . obtain rfl:i=zs.length:=by omega
      go_wp2_with fail;have HM:Hid (YG n (fun k=>(k:Int)∈zs) (xI zs k0 zs.length)):=ze (YG.of_ints HK0.out HZ.out)
      go_step3
      simp only [Exit.then]
      go_step
      exact H1'.out _ _ _ ⟨_,_,_,_,_,_,_,_,_,_,_,_,_,_,_,_,_,_,_,_,_,_,_,_,_,_,_,_,_,_,_,_,_,_,_,_,_,_,_,_,_,_,_,_,_,_,_,_,rfl,rfl,HM,HBM,HK,HW⟩
    obtain ⟨af,e2,hbf,q0⟩:=(HZS.out.below HW.out).at_ hlt
    subst e2;obtain ⟨hz1,hz2⟩:=HZ.out _ (List.getElem_mem hlt);obtain ⟨a,HA⟩:∃ a:Nat,Hid (zs[i]=(a:Int)):=⟨zs[i].toNat,ze (by omega)⟩;rw [HA.out] at q0 hz1 hz2;have ha:a<k0:=by have:=HK0.out;omega
    have hal:a<(xI zs k0 i).length:=by rw [Vj];exact ha
    have c1:=HBM.out.cell hal;have f1:=HBM.out.frozen a;have l1:=HBM.out.lt;have HB2:=HBM.out.set_ hal true;rw [zhh hlt HA.out] at HB2;have HB3:=ze HB2;generalize (xI zs k0 i)[a]=x at c1;clear HB2 hal hz2;have hgn:w.heap.size≠w.heap.size+1:=by omega
    go_wp2_with fail;go_round
    case rel=>exact ⟨i+1,by omega,by go_num,HB3,HK.out.far hgn _,HW.out.setCell (by simp only;omega) _⟩
    case measure=>simp [intOf];omega
end Go.Proofs.YtacfcmdlgebhgaaGreat
namespace Go.Proofs.YtacfcmdlgebhgaaGreat
open Go.RowKit Go.Deep
attribute [local go_sem ↓] Go.wp_at_zero Go.wp_at_succ
theorem zq2 {w:World} {base:Nat} {e:TypeId} {size:Nat} {v:Value} {n:Nat} {xs:List Value} (h:w.ownsRow base e size v n xs):∀ k,v.ownBlock=some k->base<=k:=by
 intro k hk
 rcases h.2 with ⟨rfl,_⟩ | ⟨g,cap,cur,rfl,hb,_⟩
 . simp [Value.ownBlock] at hk
 . simp [Value.ownBlock] at hk
   omega
theorem zl3 {w:World} {base n:Nat} {v:Value} {zs:List Int} (h:w.ownsRow base 3 1 v n (VD zs)) (hn:zs.length<=1000):Vy w v zs:=by
 have hl:zs.length=n:=by have:=h.1;rw [XI] at this;omega
 rcases Nat.eq_zero_or_pos n with h0 | h0
 . rcases h.2 with ⟨rfl,_⟩ | ⟨g,cap,cur,rfl,hb,hg,hnc,hcm,hcs,ht⟩
   . subst h0
     obtain rfl:zs=[]:=List.eq_nil_of_length_eq_zero hl;exact ⟨none,0,rfl,by simp,by unfold maxLen;omega,by simp,zK.none_⟩
   . subst h0
     obtain rfl:zs=[]:=List.eq_nil_of_length_eq_zero hl;exact ⟨some ⟨g,0,none⟩,cap,rfl,by simp,hcm,by simp,⟨by simp [VD],fun h=>by simp at h⟩⟩
 . rcases h.2 with ⟨rfl,h1⟩ | ⟨g,cap,cur,rfl,hb,hg,hnc,hcm,hcs,ht⟩
   . omega
   . refine ⟨some ⟨g,0,none⟩,cap,by rw [hl],by omega,hcm,hn,?_⟩
     have:=zK.of_own h;rw [hl];exact this
def FixR (n:Net) (w:World) (cs:Array Value) (fv iv:Value) (wr:World):Prop:=
 ∃ i:Nat,i<=n.heads.length/\iv= .int .i64 i/\Hid (∀ j,j<i->n.levelErr n.heads j=0)/\Hid (wr.ownsRow (w.heap.size+1) 3 1 fv i (VD ((n.heads.map (·.node)).take i)))/\
  Hid (Blk wr w.heap.size 26 cs)/\Hid (Below w.heap.size w wr)
def WelR (n:Net) (zs:List Int) (fv:Value) (w:World) (cs:Array Value) (iv:Value) (wr:World):Prop:=
 ∃ i:Nat,i<=n.wells.length/\iv= .int .i64 i/\Hid (zhk n i)/\Hid (Vy wr fv zs)/\Hid (Blk wr w.heap.size 26 cs)/\Hid (Below w.heap.size w wr)
theorem zlz (n:Net) {k:Nat} (hk:k<n.wells.length):n.wellErr k=if n.levelErr n.wells k≠0 then n.levelErr n.wells k else if n.wells[k].node∈n.heads.map (·.node) then 10 else 0:=by
 unfold Net.wellErr
 have e:n.wells.getD k default=n.wells[k]:=by simp [List.getD,List.getElem?_eq_getElem hk]
 rw [e]
theorem zmz {l:List Bool}:false∈l↔¬ ∀ j (h:j<l.length),l[j]=true:=by
 constructor
 . intro hm ha
   obtain ⟨j,hj,e⟩:=List.mem_iff_getElem.1 hm;rw [ha j hj] at e;cases e
 intro h
 apply Classical.byContradiction
 intro hn
 exact h fun j hj=>by
  cases e:l[j] with
  | true=>rfl
  | false=>exact absurd (List.mem_iff_getElem.2 ⟨j,hj,e⟩) hn
theorem Net.nodes_in {n:Net} (h:n.P4):∀ z:Int,z∈n.heads.map (·.node)->0<=z/\z<(n.nodes.length:Int):=by
 intro z hz
 obtain ⟨v,hv,rfl⟩:=List.mem_map.1 hz
 obtain ⟨i,hi,rfl⟩:=List.mem_iff_getElem.1 hv
 have:=Net.level_ok (zN.1 h.2 i hi) hi
 exact ⟨this.1,this.2.1⟩
theorem Vy.reads {w:World} {A:Option Addr} {m c:Nat} {zs:List Int} (h:Vy w (.slice A m c) zs):zK w w.heap.size 1 A m (VD zs):=by
 obtain ⟨A',c',e,_,_,_,h4⟩:=h
 injection e with e1 e2 e3
 subst e1 e2 e3
 exact h4
theorem Net.on_iff {n:Net} (h:n.P4) (k:Nat):(k:Int)∈n.heads.map (·.node)↔(k<n.nodes.length/\Net.on n.heads k):=by
 constructor
 . intro hz
   have h1:=(Net.nodes_in h _ hz).2;obtain ⟨v,hv,e⟩:=List.mem_map.1 hz;exact ⟨by omega,v,hv,e⟩
 rintro ⟨_,v,hv,e⟩
 exact List.mem_map.2 ⟨v,hv,e⟩
theorem zbu (vn:Value) (n:Net) (w:World) (hn:Zw w vn n) (h3:n.P3):
 Calls Tryz.prog 76 #[vn] w (vO w (.int .i64 n.err)):=by
 have HNET:=ze hn
 obtain ⟨A0,k0,c0,A1,k1,c1,A2,k2,c2,A3,k3,c3,rfl,hn0,hn1,hn2,hn3⟩:=hn
 have hk2:k2=n.heads.length:=by obtain ⟨A',c',e,_⟩:=hn2;injection e
 have hk3:k3=n.wells.length:=by obtain ⟨A',c',e,_⟩:=hn3;injection e
 have hb2:k2<=1000:=by obtain ⟨A',c',e,_,_,h6,_⟩:=hn2;omega
 have hb3:k3<=1000:=by obtain ⟨A',c',e,_,_,h6,_⟩:=hn3;omega
 have HW:=ze (zg w (.cells #[.slice A0 k0 c0,.slice A1 k1 c1,.slice A2 k2 c2,.slice A3 k3 c3] 26))
 have HK:=ze (Blk.new w 26 #[.slice A0 k0 c0,.slice A1 k1 c1,.slice A2 k2 c2,.slice A3 k3 c3])
 have HN2:=ze hn2
 have HN3:=ze hn3
 have HK2:=ze hk2
 have HK3:=ze hk3
 have HP3:=ze h3
 obtain ⟨i0,hi0,hz0,hz1,hz2⟩:=info_parts zba
 clear hn0 hn1 hn2 hn3 hk2 hk3 h3
 go_enter Tryz.func76,Tryz.ntmps76
 go_wp2_with fail
 go_loopw [3,13] (FixR n w #[.slice A0 k0 c0,.slice A1 k1 c1,.slice A2 k2 c2,.slice A3 k3 c3]) (fun _ iv _=>k2 - (intOf iv).toNat)
 case atStart=>exact ⟨0,Nat.zero_le _,rfl,fun j h=>by omega,World.ownsRow_nil _ _ _ _,HK,HW⟩
 case round=>
  clear HK HW
  obtain ⟨i,hi,rfl,HD,HO,HK,HW⟩:=hrel
  by_cases hlt:i<k2
  . have hin:i<n.heads.length:=by have:=HK2.out;omega
    obtain ⟨ad2,e2,hbb,p0,p1⟩:=(HN2.out.below HW.out).at_ hin;subst e2;obtain ⟨r0,r1,r2,r3,rL⟩:=yG HK.out;have hcl:=fun w' (h:Below wr.heap.size wr w')=>XV _ _ n n.heads i w' (HNET.out.below (ext HW.out h)) (HN2.out.below (ext HW.out h)) hin
    obtain ⟨ev,HEV⟩:∃ ev,Hid (n.levelErr n.heads i=ev):=⟨_,ze rfl⟩;rw [HEV.out] at hcl;go_wp2_with fail;have hx:=zg wr (.cells #[.int .i64 n.heads[i].node,str n.heads[i].value] 43);have HL:=ze (Blk.new wr 43 #[.int .i64 n.heads[i].node,str n.heads[i].value]);have HX:=ze hx
    try clear r0 r1 r2 r3 rL
    replace HK:=kb_ HK hx;replace HW:=eb_ HW hx;replace HO:=ze (ZF HO.out hx);clear hx p0 p1 hbb;generalize wr.alloc (.cells #[.int .i64 n.heads[i].node,str n.heads[i].value] 43)=WL at HL HK HW HO HX |-;refine (hcl _ HX.out).mono ?_;rintro e WN ⟨rfl,hbB⟩
    try clear r0 r1 r2 r3 rL s0 s1 sL
    replace HK:=kb_ HK hbB;replace HL:=kb_ HL hbB;replace HW:=eb_ HW hbB;replace HO:=ze (ZF HO.out hbB);clear hbB;obtain ⟨r0,r1,r2,r3,rL⟩:=yG HK.out;obtain ⟨s0,s1,sL⟩:=bkc2 HL.out;clear hcl HX
    by_cases h0:ev=0
    rotate_left
    . have hI:(ev != 0)=true:=by rw [bne_iff_ne];exact h0
      have HF:=ze (Net.err_heads HP3.out ((xO hin HD.out (by rw [HEV.out];exact h0)).trans HEV.out) h0);clear h0;go_wp2_with fail;go_ret;exact ⟨zr HF.out,HW.out⟩
    subst h0
    have HNX:Hid (∀ j,j<i+1->n.levelErr n.heads j=0):=by
     intro m hm
     rcases Nat.lt_or_ge m i with h3 | h3
     . exact HD.out m h3
     . obtain rfl:m=i:=by omega
       exact HEV.out
    have h1c:∀ u∈[Value.int .i64 n.heads[i].node],u.oneCell' =true:=by
     intro u hu;rw [List.mem_singleton] at hu;subst hu;rfl
    have hrd:=xM WN 3 (.int .i64 n.heads[i].node);go_wp2_with (at_builtin;refine zO _ rfl (.tmp 26) (.tmp 29) _ rfl (w.heap.size+1) 3 i0 _ 1 8 Tryz.underlying29 hi0 hz0 hz1 hz2 rfl (by omega) _ i _ rfl (HO.out.alloc _) _ (some ⟨WN.heap.size,0,none⟩) 1 1 _ rfl hrd h1c ?o2 ?o3 ?o4 ?_)
    case o2=>unfold maxLen;omega
    case o3=>omega
    case o4=>have:=HW.out.size;simp;omega
    intro v3 w3 hown3 hgr3 hat3;have hge:=zq2 HO.out;have hx:=zg WN (.cells #[.int .i64 n.heads[i].node] 3);have HW3:=ze ((ext HW.out hx).grown hgr3 (by have:=HW.out.size;simp;omega) (fun k hk=>by have:=hge k hk;omega));have HK3:=ze ((HK.out.below hx HK.out.lt).grown hgr3 (fun e=>by have:=hge _ e.symm;omega))
    have HO3:Hid (w3.ownsRow (w.heap.size+1) 3 1 v3 (i+1) (VD ((n.heads.map (·.node)).take (i+1)))):=by
     rw [List.take_succ_eq_append_getElem (by simpa using hin),List.getElem_map];unfold VD at hown3 |-;rw [List.map_append];exact hown3
    clear hown3 hgr3 hat3 hge hx hrd h1c
    try clear r0 r1 r2 r3 rL s0 s1 sL
    go_wp2_with fail;go_roundw
    case rel=>exact ⟨i+1,by omega,by go_num,HNX,HO3,HK3,HW3⟩
    case measure=>simp [intOf];omega
  obtain rfl:k2=i:=by have:=HK2.out;omega
  have HP4:Hid n.P4:=ze ⟨HP3.out,zN.2 (by have h:=HD.out;rw [HK2.out] at h;exact h)⟩;have hfx:=zl3 (zs:=n.heads.map (·.node)) (by have h:=HO.out;rw [List.take_of_length_le (by simp [HK2.out])] at h;exact h) (by have:=HK2.out;simp;omega);have HFX:=ze hfx;clear HO HD hlt;obtain ⟨Af,cf,hfe,_⟩:=hfx;rw [List.length_map] at hfe;subst hfe;obtain ⟨r0,r1,r2,r3,rL⟩:=yG HK.out;go_wp2_with fail;clear r0 r1 r2 r3 rL
  go_loopw [35] (WelR n (n.heads.map (·.node)) (.slice Af n.heads.length cf) w #[.slice A0 k0 c0,.slice A1 k1 c1,.slice A2 k2 c2,.slice A3 k3 c3]) (fun iv _=>k3 - (intOf iv).toNat)
  case atStart=>exact ⟨0,Nat.zero_le _,rfl,fun j h=>by omega,HFX,HK,HW⟩
  case round=>
   clear HFX HK HW;obtain ⟨i,hi,rfl,HD,HFX,HK,HW⟩:=hrel
   by_cases hlt:i<k3
   rotate_left
   . obtain rfl:k3=i:=by have:=HK3.out;omega
     have HP5:=ze (HP4.out.next (by have h:=HD.out;rw [HK3.out] at h;exact h));clear HD hlt;obtain ⟨r0,r1,r2,r3,rL⟩:=yG HK.out;have hj:=Vt _ _ n (n.heads.map (·.node)) wr (HNET.out.below HW.out) HFX.out HP5.out.1.1.ends (by have:=HP5.out.1.1.1.1.2;omega) (Net.nodes_in HP5.out.1);clear HFX;go_wp2_with fail;refine (hj).mono ?_;rintro e WN ⟨v,l,rfl,hv,hm,hbB⟩
     try clear r0 r1 r2 r3 rL
     replace HK:=kb_ HK hbB;replace HW:=eb_ HW hbB;clear hbB;obtain ⟨r0,r1,r2,r3,rL⟩:=yG HK.out;clear hj;have HALL:=ze (hm.all (T:=Net.on n.heads) (Net.on_iff HP5.out.1) (Net.on_lt HP5.out.1));have hll:l.length<=24:=by rw [hm.len];have:=HP5.out.1.1.1.1.1;omega
     obtain ⟨A9,c9,rfl,hc1,hc2,hr⟩:=hv;have hco:=zh7 A9 WN.heap.size c9 l false WN hr (by omega);clear hm hc1 hc2 hr hll
     by_cases hmem:false∈l
     . have HF:=ze ((Net.err_end HP5.out).1 (fun ha=>zmz.1 hmem (HALL.out.2 ha)))
       rw [decide_eq_true hmem] at hco;clear hmem;go_wp2_with fail;refine hco.mono ?_;rintro e w1 ⟨rfl,rfl⟩;clear hco;go_wp2_with fail;go_ret;exact ⟨zr HF.out,HW.out⟩
     have HF:=ze ((Net.err_end HP5.out).2 (HALL.out.1 (Classical.byContradiction fun h=>hmem (zmz.2 h))))
     rw [decide_eq_false hmem] at hco;clear hmem;go_wp2_with fail;refine hco.mono ?_;rintro e w1 ⟨rfl,rfl⟩;clear hco;go_wp2_with fail;go_ret;exact ⟨zr HF.out,HW.out⟩
   have hin:i<n.wells.length:=by have:=HK3.out;omega
   obtain ⟨ad3,e2,hbb,p0,p1⟩:=(HN3.out.below HW.out).at_ hin;subst e2;obtain ⟨r0,r1,r2,r3,rL⟩:=yG HK.out;have hcl:=fun w' (h:Below wr.heap.size wr w')=>XV _ _ n n.wells i w' (HNET.out.below (ext HW.out h)) (HN3.out.below (ext HW.out h)) hin
   obtain ⟨ev,HEV⟩:∃ ev,Hid (n.levelErr n.wells i=ev):=⟨_,ze rfl⟩;rw [HEV.out] at hcl;have HWE:=ze (zlz n hin);rw [HEV.out] at HWE;go_wp2_with fail;have hx:=zg wr (.cells #[.int .i64 n.wells[i].node,str n.wells[i].value] 43);have HL:=ze (Blk.new wr 43 #[.int .i64 n.wells[i].node,str n.wells[i].value]);have HX:=ze hx
   try clear r0 r1 r2 r3 rL
   replace HK:=kb_ HK hx;replace HW:=eb_ HW hx;replace HFX:=ze (HFX.out.below hx);clear hx p0 p1 hbb;generalize wr.alloc (.cells #[.int .i64 n.wells[i].node,str n.wells[i].value] 43)=WL at HL HK HW HFX HX |-;generalize wr.heap.size=q at HL |-;refine (hcl _ HX.out).mono ?_;rintro e WN ⟨rfl,hbB⟩
   try clear r0 r1 r2 r3 rL s0 s1 sL
   replace HK:=kb_ HK hbB;replace HL:=kb_ HL hbB;replace HW:=eb_ HW hbB;replace HFX:=ze (HFX.out.below hbB);clear hbB;obtain ⟨r0,r1,r2,r3,rL⟩:=yG HK.out;obtain ⟨s0,s1,sL⟩:=bkc2 HL.out;clear hcl HX
   by_cases h0:ev=0
   rotate_left
   . have hI:(ev != 0)=true:=by rw [bne_iff_ne];exact h0
     have HF:=ze (Net.err_well HP4.out hin HD.out (HWE.out.trans (if_pos h0)) h0);clear h0 HWE;go_wp2_with fail;go_ret;exact ⟨zr HF.out,HW.out⟩
   subst h0
   have HWE2:=ze (HWE.out.trans (if_neg (by decide)));clear HWE;have hco:=fun w' (h:w' =WN)=>zj5 Af WN.heap.size cf (n.heads.map (·.node)) n.wells[i].node w' (by rw [h,List.length_map];exact HFX.out.reads) (by have:=HK2.out;rw [List.length_map];omega)
   rw [List.length_map] at hco
   by_cases hm:n.wells[i].node∈n.heads.map (·.node)
   . rw [decide_eq_true hm] at hco
     have HF:=ze (Net.err_well HP4.out hin HD.out (HWE2.out.trans (if_pos hm)) (by decide));have hco1:=hco WN rfl;clear hm HWE2 hco;go_wp2_with fail;refine hco1.mono ?_;rintro e w1 ⟨rfl,rfl⟩;clear hco1;go_wp2_with fail;go_ret;exact ⟨zr HF.out,HW.out⟩
   rw [decide_eq_false hm] at hco
   have HNX:Hid (zhk n (i+1)):=by
    intro m hm2
    rcases Nat.lt_or_ge m i with h3 | h3
    . exact HD.out m h3
    . obtain rfl:m=i:=by omega
      exact HWE2.out.trans (if_neg hm)
   have hco1:=hco WN rfl;clear hm HWE2 hco;go_wp2_with fail;refine hco1.mono ?_;rintro e w1 ⟨rfl,rfl⟩;clear hco1;go_wp2_with fail;go_round
   case rel=>exact ⟨i+1,by omega,by go_num,HNX,HFX,HK,HW⟩
   case measure=>simp [intOf];omega
theorem yY.reads_take {w:World} {A:Option Addr} {m c:Nat} {l:List (List UInt8)} (h:yY w (.slice A m c) l) {k:Nat} (hk:k<=l.length):zK w w.heap.size 1 A k ((l.take k).map str):=by
 obtain ⟨A',c',e,_,_,_,h4,_⟩:=h
 injection e with e1 e2 e3
 subst e1 e2 e3
 have:=h4.head (k:=k) hk
 rw [Nat.mul_one, <- List.map_take] at this
 exact this
theorem ze5 (vn:Value) (n:Net) (w:World) (hn:Zw w vn n):
 Calls Tryz.prog 45 #[vn] w (vO w (.int .i64 n.err)):=by
 have HNET:=ze hn
 obtain ⟨A0,k0,c0,A1,k1,c1,A2,k2,c2,A3,k3,c3,rfl,hn0,hn1,hn2,hn3⟩:=hn
 have hk0:k0=n.nodes.length:=by obtain ⟨A',c',e,_⟩:=hn0;injection e
 have hk1:k1=n.pipes.length:=by obtain ⟨A',c',e,_⟩:=hn1;injection e
 have hb0:k0<=1000:=by obtain ⟨A',c',e,_,_,h6,_⟩:=hn0;omega
 have hb1:k1<=1000:=by obtain ⟨A',c',e,_,_,h6,_⟩:=hn1;omega
 have hcap:k0<=c0:=by obtain ⟨A',c',e,h,_⟩:=hn0;injection e;omega
 have HW:=ze (zg w (.cells #[.slice A0 k0 c0,.slice A1 k1 c1,.slice A2 k2 c2,.slice A3 k3 c3] 26))
 have HK:=ze (Blk.new w 26 #[.slice A0 k0 c0,.slice A1 k1 c1,.slice A2 k2 c2,.slice A3 k3 c3])
 have HN0:=ze hn0
 have HN1:=ze hn1
 have HK0:=ze hk0
 have HK1:=ze hk1
 clear hn0 hn1 hn2 hn3 hk0 hk1
 by_cases h24:24<k0
 . have HF:=ze (Net.err_many (n:=n) (by have:=HK0.out;omega))
   go_enter Tryz.func45,Tryz.ntmps45
   go_wp2_with fail;go_ret;exact ⟨zr HF.out,HW.out⟩
 by_cases h0:k0=0
 . have HF:=ze (Net.err_none (n:=n) (by have:=HK0.out;omega))
   subst h0
   go_enter Tryz.func45,Tryz.ntmps45
   go_wp2_with fail;go_ret;exact ⟨zr HF.out,HW.out⟩
 have HP1:Hid n.P1:=ze ⟨by have:=HK0.out;omega,by have:=HK0.out;omega⟩
 have hz0:((k0:Int) == 0)=false:=by rw [beq_eq_false_iff_ne];omega
 have h24' :(k0:Int)<=24:=by omega
 clear h24
 go_enter Tryz.func45,Tryz.ntmps45
 go_wp2_with fail
 go_loopw [20] (zya k0 (zs9 n) w #[.slice A0 k0 c0,.slice A1 k1 c1,.slice A2 k2 c2,.slice A3 k3 c3]) (fun iv _=>k0 - (intOf iv).toNat)
 case atStart=>exact ⟨0,Nat.zero_le _,rfl,fun j h=>by omega,HK,HW⟩
 case round=>
  clear HK HW
  obtain ⟨i,hi,rfl,HD,HK,HW⟩:=hrel
  obtain ⟨r0,r1,r2,r3,rL⟩:=yG HK.out
  by_cases hlt:i<k0
  . have hin:i<n.nodes.length:=by have:=HK0.out;omega
    obtain ⟨ad,e1,hb,p0⟩:=(HN0.out.below HW.out).at_ hin;subst e1
    have hsm:zV n.nodes[i]:=by
     obtain ⟨A',c',_,_,_,_,_,h⟩:=HN0.out;exact h _ (List.getElem_mem hin)
    have hnm:=fun w=>zgk ⟨n.nodes[i].toArray⟩ w (by rw [<- zm,yy];exact hsm)
    rw [yy] at hnm;have HE:=ze (zd6 n hin)
    cases hb:vr n.nodes[i] with
    | false=>
      have HF:=ze (Net.err_node HP1.out hin HD.out (HE.out.trans (if_pos hb)) (by decide));rw [hb] at hnm;clear hb hsm hz0;go_wp2_with fail;refine (hnm _).mono ?_;rintro e w1 ⟨rfl,rfl⟩;go_wp2_with fail;go_ret;exact ⟨zr HF.out,HW.out⟩
    | true=>
      have HE2:=ze (HE.out.trans (if_neg (by rw [hb];decide)));rw [hb] at hnm;have hco:=zh4 (some ad) wr.heap.size c0 (n.nodes.take i) n.nodes[i] wr (by rw [List.length_take,Nat.min_eq_left (by omega)];exact (HN0.out.below HW.out).reads_take (by omega)) (by rw [List.length_take];omega);rw [List.length_take,Nat.min_eq_left (by omega)] at hco;have hic:(i:Int)<=(c0:Int):=by omega
      clear hb hsm HE
      by_cases hm:n.nodes[i]∈n.nodes.take i
      . have HF:=ze (Net.err_node HP1.out hin HD.out (HE2.out.trans (if_pos hm)) (by decide))
        rw [decide_eq_true hm] at hco;clear hm HE2;go_wp2_with fail;refine (hnm _).mono ?_;rintro e w1 ⟨rfl,rfl⟩;clear hnm;go_wp2_with fail;refine hco.mono ?_;rintro e w1 ⟨rfl,rfl⟩;go_wp2_with fail;go_ret;exact ⟨zr HF.out,HW.out⟩
      . have HNE:=ze (HE2.out.trans (if_neg hm))
        rw [decide_eq_false hm] at hco;clear hm HE2;go_wp2_with fail;refine (hnm _).mono ?_;rintro e w1 ⟨rfl,rfl⟩;clear hnm;go_wp2_with fail;refine hco.mono ?_;rintro e w1 ⟨rfl,rfl⟩;clear hco p0;go_wp2_with fail;go_round
        case rel=>
         refine ⟨i+1,by omega,by go_num,?_,HK,HW⟩;intro m hm
         rcases Nat.lt_or_ge m i with h3 | h3
         . exact HD.out m h3
         . obtain rfl:m=i:=by omega
           exact HNE.out
        case measure=>simp [intOf];omega
  . obtain rfl:k0=i:=by omega
    have HP2:=ze (HP1.out.next (by have h:=HD.out;rw [HK0.out] at h;exact h));clear HD HP1 hlt
    by_cases h48:48<k1
    . have HF:=ze (Net.err_pipes HP2.out (by have:=HK1.out;omega))
      go_wp2_with fail;go_ret;exact ⟨zr HF.out,HW.out⟩
    have h48' :(k1:Int)<=48:=by omega
    have H48:=ze (show ¬ 48<n.pipes.length by have:=HK1.out;omega);clear h48 hi;go_wp2_with fail;clear r0 r1 r2 r3 rL
    go_loopw [44] (zya k1 (zh9 n) w #[.slice A0 k0 c0,.slice A1 k1 c1,.slice A2 k2 c2,.slice A3 k3 c3]) (fun iv _=>k1 - (intOf iv).toNat)
    case atStart=>exact ⟨0,Nat.zero_le _,rfl,fun j h=>by omega,HK,HW⟩
    case round=>
     clear HK HW;obtain ⟨i,hi,rfl,HD,HK,HW⟩:=hrel;obtain ⟨r0,r1,r2,r3,rL⟩:=yG HK.out
     by_cases hlt:i<k1
     . have hin:i<n.pipes.length:=by have:=HK1.out;omega
       have hp:=fun w' (h:Below w.heap.size w w')=>ze0 _ n i w' (HNET.out.below h) hin
       obtain ⟨ev,HEV⟩:∃ ev,Hid (n.pipeErr i=ev):=⟨_,ze rfl⟩;rw [HEV.out] at hp
       by_cases h0:ev=0
       . have HNX:Hid (zh9 n (i+1)):=by
          intro m hm
          rcases Nat.lt_or_ge m i with h3 | h3
          . exact HD.out m h3
          . obtain rfl:m=i:=by omega
            exact HEV.out.trans h0
         subst h0;go_wp2_with fail;refine (hp _ HW.out).mono ?_;rintro e WN ⟨rfl,hbB⟩
         try clear r0 r1 r2 r3 rL
         replace HK:=kb_ HK hbB;replace HW:=eb_ HW hbB;clear hbB;obtain ⟨r0,r1,r2,r3,rL⟩:=yG HK.out;clear hp;go_wp2_with fail;go_round
         case rel=>exact ⟨i+1,by omega,by go_num,HNX,HK,HW⟩
         case measure=>simp [intOf];omega
       . have hI:(ev != 0)=true:=by rw [bne_iff_ne];exact h0
         have HF:=ze (Net.err_pipe HP2.out H48.out hin HD.out HEV.out h0);clear h0;go_wp2_with fail;refine (hp _ HW.out).mono ?_;rintro e WN ⟨rfl,hbB⟩
         try clear r0 r1 r2 r3 rL
         replace HK:=kb_ HK hbB;replace HW:=eb_ HW hbB;clear hbB;obtain ⟨r0,r1,r2,r3,rL⟩:=yG HK.out;clear hp;go_wp2_with fail;go_ret;exact ⟨zr HF.out,HW.out⟩
     . obtain rfl:k1=i:=by omega
       have HP3:=ze (HP2.out.next H48.out (by have h:=HD.out;rw [HK1.out] at h;exact h));clear HD HP2 hlt;have hp:=zbu _ n wr (HNET.out.below HW.out) HP3.out;go_wp2_with fail;refine (hp).mono ?_;rintro e WN ⟨rfl,hbB⟩
       try clear r0 r1 r2 r3 rL
       replace HK:=kb_ HK hbB;replace HW:=eb_ HW hbB;clear hbB;obtain ⟨r0,r1,r2,r3,rL⟩:=yG HK.out;go_wp2_with fail;go_ret;exact ⟨rfl,HW.out⟩
end Go.Proofs.YtacfcmdlgebhgaaGreat
