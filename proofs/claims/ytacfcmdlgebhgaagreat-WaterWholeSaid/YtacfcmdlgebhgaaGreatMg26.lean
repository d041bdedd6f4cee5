/- Parts of the proof: memory, numbers, walks of the functions that are called. -/
import Derived.Test.YtacfcmdlgebhgaaGreatMg24
import Derived.Test.YtacfcmdlgebhgaaGreatMg25
set_option linter.unusedVariables false
set_option linter.unusedSimpArgs false
set_option maxRecDepth 100000
set_option maxHeartbeats 32000000
namespace Go.Proofs.YtacfcmdlgebhgaaGreat
open Go.RowKit Go.Deep
attribute [local go_sem ↓] Go.wp_at_zero Go.wp_at_succ
theorem zv4:(Tryz.prog.info? 79).map (·.size)=some 25:=by kernel_rfl
theorem Tryz.underlying79:Tryz.prog.underlying 79=some (.array 25 28):=by kernel_rfl
theorem zua:(Tryz.prog.info? 28).map (fun i=>(i.zero,i.size,i.bytes))=some (some (.string ⟨#[]⟩),1,16):=by kernel_rfl
theorem Tryz.underlying27:Tryz.prog.underlying 27=some (.slice 28):=by kernel_rfl
theorem zjg {A:Tab} {i c:Nat} (h:zG 50000 (A i c)):zV (txt A i c):=by
 have:=YT h
 unfold zV txt;omega
theorem yp {q:Rat} (h:zG 50000 q):zV (zh q):=by
 have:=YT h
 unfold zV;omega
theorem zlg (A:Tab) (k p:Nat):zgr (zgr (txt A) k (txt A p)) p (txt A k)=txt (swapped A k p):=by
 funext i c
 unfold zgr txt swapped
 by_cases h1:i=p
 rotate_left
 . by_cases h2:i=k
   . subst h2;simp [h1]
   simp [h1,h2]
 subst h1
 by_cases h2:i=k
 . subst h2;simp
 simp [h2]
theorem zur {A:Tab} {k i c:Nat} (hc:k<=c):upd (txt (zio A k i c)) i c (zh (A i c - A i k / A k k*A k c))=txt (zio A k i (c+1)):=by
 rw [<- zmy hc]
 funext i' c'
 unfold upd txt
 by_cases h:i' =i/\c' =c
 . rw [if_pos h];simp [h]
 rw [if_neg h];simp [h]
theorem Y0 {w w1 w2:World} {g:Nat} (h:w.grownBy w1 (some g)) (hb:Below w1.heap.size w1 w2):w.grownBy w2 (some g):=XB h hb
theorem XO {w:World} {g:Nat} (vs:List Value):∀ {w' :World} (h:w.grownBy w' (some g)) (o:Nat),w.grownBy (w'.setCells g o vs) (some g):=by
 induction vs with
 | nil=>intro w' h o;exact h
 | cons v r ih=>intro w' h o;exact ih (h.set_ g o v) (o+1)
theorem zfw {w w1 w2 w3:World} {g:Nat} {row:Option Nat} (h:w.grownBy w1 (some g)) (hb:Below w1.heap.size w1 w2) (hg:w2.grownBy w3 row) (hr:∀ k,row=some k->w.heap.size<=k):w.grownBy w3 (some g):=by
 have h2:=XB h hb
 exact ⟨hg.os.trans h2.os,hg.tape.trans h2.tape,hg.output.trans h2.output,Nat.le_trans h2.size hg.size,fun b hb1 hn=>(hg.block b (Nat.lt_of_lt_of_le hb1 h2.size) (fun e=>by have:=hr b e.symm;omega)).trans (h2.block b hb1 hn)⟩
theorem zo8 {i:Nat} (f:Nat->Value):(List.range (i+1)).map f=(List.range i).map f ++ [f i]:=by rw [List.range_succ,List.map_append];rfl
def SolK (m E g:Nat) (A0:Tab) (w:World) (iv:Value) (wr:World):Prop:=
 ∃ (k:Nat) (A:Tab),k<=m/\iv= .int .i64 k/\Hid (Vc m A0 E k A)/\Hid (yI wr g m (txt A))/\Hid (w.grownBy wr (some g))
def SolI (m k g:Nat) (B:Tab) (w:World) (iv:Value) (wr:World):Prop:=
 ∃ i:Nat,i<=m/\iv= .int .i64 i/\Hid (yI wr g m (txt (freed B k i)))/\Hid (w.grownBy wr (some g))
def SolC (m k i g:Nat) (B:Tab) (w:World) (cv:Value) (wr:World):Prop:=
 ∃ c:Nat,k<=c/\c<=m+1/\cv= .int .i64 c/\Hid (yI wr g m (txt (zio B k i c)))/\Hid (w.grownBy wr (some g))
def SolO (m g:Nat) (A:Tab) (w:World) (ov iv:Value) (wr:World):Prop:=
 ∃ i:Nat,i<=m/\iv= .int .i64 i/\Hid (wr.ownsRow w.heap.size 28 1 ov i ((List.range i).map fun i=>str (zh (A i m / A i i))))/\Hid (yI wr g m (txt A))/\Hid (w.grownBy wr (some g))
def zoh (m E:Nat) (A0:Tab) (g:Nat) (w:World) (e:Ending) (w' :World):Prop:=
 ∃ v A,e= .returned v/\Vc m A0 E m A/\w'.ownsRow w.heap.size 28 1 v m ((List.range m).map fun i=>str (zh (A i m / A i i)))/\w.grownBy w' (some g)
theorem zkb (g m E:Nat) (A0:Tab) (w:World) (hR:yI w g m (txt A0)) (h0:Vc m A0 E 0 A0) (hm:m<=24) (hE:E*2 ^ m<=49999):
 Calls Tryz.prog 49 #[.slice (some ⟨g,0,none⟩) m m,.int .i64 m,.func (.func 24) #[] #[],.func (.func 23) #[] #[],.func (.func 41) #[] #[]] w (zoh m E A0 g w):=by
 have HGL:=ze hR.lt
 have HR:=ze hR
 have H0:=ze h0
 have HG:=ze (World.grownBy.refl w (some g))
 have HE:=ze hE
 clear hR h0 hE
 go_enter Tryz.func49,Tryz.ntmps49
 go_wp2_with fail
 go_loopw [19] (SolK m E g A0 w) (fun iv _=>m - (intOf iv).toNat)
 case atStart=>exact ⟨0,A0,Nat.zero_le _,rfl,H0,HR,HG⟩
 case round=>
  clear H0 HR HG
  obtain ⟨k,A,hk,rfl,HEl,HR,HG⟩:=hrel
  by_cases hlt:k<m
  rotate_left
  . obtain rfl:k=m:=by omega
    obtain ⟨i0,hi0,hz0,hz1,hz2⟩:=info_parts zua;clear hlt;go_wp2_with fail
    go_loopw [16,107] (SolO k g A w) (fun _ iv _=>k - (intOf iv).toNat)
    case atStart=>exact ⟨0,Nat.zero_le _,rfl,World.ownsRow_nil _ _ _ _,HR,HG⟩
    case round=>
     clear HR HG;obtain ⟨i,hi,rfl,HO,HR,HG⟩:=hrel
     by_cases hil:i<k
     rotate_left
     . obtain rfl:i=k:=by omega
       go_wp2_with fail;go_ret;exact ⟨_,A,rfl,HEl.out,HO.out,HG.out⟩
     have hii:(i:Int)<(k:Int):=by omega
     have hk25:(k:Int)<25:=by omega
     have hi25:(i:Int)<25:=by omega
     have ci:=HR.out.cell hil (show k<25 by omega);have ck:=HR.out.cell hil (show i<25 by omega);have lg:=HR.out.lt;have s1:=HEl.out.short (Nat.le_refl _) HE.out hil (Nat.le_refl _);have s2:=HEl.out.short (Nat.le_refl _) HE.out hil (Nat.le_of_lt hil);have s3:=HEl.out.answer HE.out hil;have hov:=fun w' =>ze2 (zh (A i k)) (zh (A i i)) w' (yp s1) (yp s2)
     unfold zuf at hov;rw [zhs s1 s2 (HEl.out.1.2.1 i hil).1 s3] at hov;unfold txt at ci ck;clear s1 s2 s3;go_wp2_with fail;have cig:=zF lg ci;have ckg:=zF lg ck;refine Yr 1 15 (by kernel_rfl) (by kernel_rfl) ?_ ?_
     . intro _ _ _ _ _ h9;exact h9
     simp only [List.take_succ_cons,List.take_zero,List.drop_succ_cons,List.drop_zero];refine YM (fun K hK=>?_)
     go_simp
     refine hK _ ?_;clear hK K;refine zgn ?_
     repeat (quiet_step (first | (go_at_call 41;exact zR (hov _))))
     refine wpQuiet_nil ?_;rintro w9 ⟨t9,rfl⟩;clear cig ckg;have hbB:=yq wr t9;replace HR:=ze (HR.out.below hbB);replace HG:=ze (Y0 HG.out hbB);replace HO:=ze (ZF HO.out hbB);generalize grown wr t9=WN at hbB HR HG HO |-;clear t9;clear ci ck lg hbB hov
     have h1c:∀ u∈[str (zh (A i k / A i i))],u.oneCell' =true:=by
      intro u hu;rw [List.mem_singleton] at hu;subst hu;rfl
     have hrd:=xM WN 28 (str (zh (A i k / A i i)));go_wp2_with (at_builtin;refine zO _ rfl (.tmp 110) (.tmp 125) _ rfl w.heap.size 28 i0 _ 1 16 Tryz.underlying27 hi0 hz0 hz1 hz2 rfl (by omega) _ i _ rfl (HO.out.alloc _) _ (some ⟨WN.heap.size,0,none⟩) 1 1 _ rfl hrd h1c ?o2 ?o3 ?o4 ?_)
     case o2=>unfold maxLen;omega
     case o3=>omega
     case o4=>have:=HG.out.size;simp;omega
     intro v3 w3 hown3 hgr3 hat3;have hge:=zq2 HO.out;have hx:=zg WN (.cells #[str (zh (A i k / A i i))] 28);have HG3:=ze (zfw HG.out hx hgr3 (fun k hk=>by have:=hge k hk;omega));have HR3:Hid (yI w3 g k (txt A)):=Blk.grown (HR.out.below hx) hgr3 (fun e=>by have:=hge _ e.symm;have:=HGL.out;omega)
     have HO3:Hid (w3.ownsRow w.heap.size 28 1 v3 (i+1) ((List.range (i+1)).map fun i=>str (zh (A i k / A i i)))):=by
      rw [zo8];exact hown3
     clear hown3 hgr3 hat3 hge hx hrd h1c;go_wp2_with fail;go_roundw
     case rel=>exact ⟨i+1,by omega,by go_num,HO3,HR3,HG3⟩
     case measure=>simp [intOf];omega
  obtain ⟨p0,hp1,hp2,hne⟩:=HEl.out.1.pivot hlt
  have HNE:=ze hne;have hk25:(k:Int)<25:=by omega
  clear hne;go_wp2_with fail
  go_loop [12] (fun pv=>∃ p:Nat,k<=p/\p<=p0/\pv= .int .i64 p) (fun pv=>p0 - (intOf pv).toNat)
  case atStart=>exact ⟨k,Nat.le_refl _,hp1,rfl⟩
  case round=>
   obtain ⟨p,hp3,hp4,rfl⟩:=hrel;have hpm:p<m:=by omega
   have cp:=HR.out.cell hpm (show k<25 by omega);have hpi:(p:Int)<(m:Int):=by omega
   by_cases hz:A p k=0
   . have hI:(txt A p k == [48])=true:=by rw [beq_iff_eq];exact yO.2 hz
     have hpp:p<p0:=by
      rcases Nat.lt_or_ge p p0 with h | h
      . exact h
      . obtain rfl:p=p0:=by omega
        exact absurd hz HNE.out
     clear hz;go_wp2_with fail;go_round
     case rel=>exact ⟨p+1,by omega,by omega,by go_num⟩
     case measure=>simp [intOf];omega
   have hI:(txt A p k == [48])=false:=by rw [beq_eq_false_iff_ne];exact fun e=>hz (yO.1 e)
   have HZ:=ze hz;clear hz;have hki:(k:Int)<(m:Int):=by omega
   obtain ⟨RP,hRP⟩:∃ x,x=Zq (txt A p):=⟨_,rfl⟩;obtain ⟨RK,hRK⟩:∃ x,x=Zq (txt A k):=⟨_,rfl⟩
   have hlp:∀ w',(∃ t:zd9 wr,w' =grown wr t)->(Instr.loadAt 79 (.pointer (some ⟨g,p*25,none⟩))).run Tryz.prog w' = .ok (.agg RP.toArray) w' :=fun w' ⟨t,ht⟩=>by
    subst ht;rw [hRP];exact run_loadAt_mid _ _ _ _ _ _ ((HR.out.below t.below).range hpm) Tryz.underlying79 rfl (by rw [ve];exact zv4)
   have hlk:∀ w',(∃ t:zd9 wr,w' =grown wr t)->(Instr.loadAt 79 (.pointer (some ⟨g,k*25,none⟩))).run Tryz.prog w' = .ok (.agg RK.toArray) w' :=fun w' ⟨t,ht⟩=>by
    subst ht;rw [hRK];exact run_loadAt_mid _ _ _ _ _ _ ((HR.out.below t.below).range hlt) Tryz.underlying79 rfl (by rw [ve];exact zv4)
   have HLP:=ze hlp;have HLK:=ze hlk;have HRP:=ze hRP;have HRK:=ze hRK;clear hRP hRK hlp hlk;go_wp2_with fail;clear cp;refine Yr 4 13 (by kernel_rfl) (by kernel_rfl) ?_ ?_
   . intro _ _ _ _ _ h9;exact h9
   simp only [List.take_succ_cons,List.take_zero,List.drop_succ_cons,List.drop_zero];refine YM (fun K hK=>?_)
   go_simp
   refine hK _ ?_;clear hK K;refine YM (fun K hK=>?_)
   go_simp
   refine hK _ ?_;clear hK K;refine YM (fun K hK=>?_)
   go_simp
   refine hK _ ?_;clear hK K;refine YM (fun K hK=>?_)
   go_simp
   refine hK _ ?_;clear hK K;refine zgn ?_
   repeat (quiet_step (first | (fail)))
   refine wpQuiet_step (fun K hK=>?_);rw [if_pos (by rfl)];refine zg7 _ _ rfl rfl HLP.out (hK _ ?_);clear hK K;simp only [Act.put,List.setIfInBounds_toArray,List.set_cons_zero,List.set_cons_succ]
   repeat (quiet_step (first | (fail)))
   refine wpQuiet_step (fun K hK=>?_);rw [if_pos (by rfl)];refine zg7 _ _ rfl rfl HLK.out (hK _ ?_);clear hK K;simp only [Act.put,List.setIfInBounds_toArray,List.set_cons_zero,List.set_cons_succ]
   repeat (quiet_step (first | (fail)))
   refine wpQuiet_nil ?_;rintro w9 ⟨t9,rfl⟩;have hbB:=yq wr t9;replace HR:=ze (HR.out.below hbB);replace HG:=ze (Y0 HG.out hbB);generalize grown wr t9=WN at hbB HR HG |-;clear t9;clear HLP HLK hbB;have e1:RP.toArray.size=25:=by simp [HRP.out,ve]
   have e2:RK.toArray.size=25:=by simp [HRK.out,ve]
   have hb1:∀ v∈RP,v.oneCell' =true:=by rw [HRP.out];exact zcq _
   have hb2:∀ v∈RK,v.oneCell' =true:=by rw [HRK.out];exact zcq _
   have HR1:=HR.out.setRow hlt (txt A p);have HG1:=ze (XO (Zq (txt A p)) HG.out (k*25));rw [<- HRP.out] at HR1 HG1;have HR1:=ze HR1;have HR2:=HR1.out.setRow hpm (txt A k);have HG2:=ze (XO (Zq (txt A k)) HG1.out (p*25));rw [<- HRK.out] at HR2 HG2;rw [zlg] at HR2;have HR2:=ze HR2;have HEB:=ze (HEl.out.swapped hp3 hpm);have HB0:Hid (swapped A k p k k≠0):=ze (by unfold swapped;rw [if_pos rfl];exact HZ.out)
   have hst1:(storeCells ⟨g,k*25,none⟩ RP 0).run Tryz.prog WN= .ok () (WN.setCells g (k*25) RP):=by
    have ht:=HR.out.there_ hlt;exact run_storeCells_cells (P:=Tryz.prog) g (k*25) RP 0 WN (fun j hj=>(ht j (by simp at e1;omega)).1) (fun j hj=>(ht j (by simp at e1;omega)).2) hb1
   have hst2:(storeCells ⟨g,p*25,none⟩ RK 0).run Tryz.prog (WN.setCells g (k*25) RP)= .ok () ((WN.setCells g (k*25) RP).setCells g (p*25) RK):=by
    have ht:=HR1.out.there_ hpm;exact run_storeCells_cells (P:=Tryz.prog) g (p*25) RK 0 _ (fun j hj=>(ht j (by simp at e2;omega)).1) (fun j hj=>(ht j (by simp at e2;omega)).2) hb2
   have e3:RP.length=25:=by simpa using e1
   have e4:RK.length=25:=by simpa using e2
   generalize WN.setCells g (k*25) RP=W2 at HR1 HG1 HR2 HG2 hst1 hst2 |-;clear e1 e2 hb1 hb2;go_wp2_with fail;clear HR HG HR1 HG1 hst1 hst2 e3 e4;generalize W2.setCells g (p*25) RK=W3 at HR2 HG2 |-;clear HRP HRK HEl HZ;generalize swapped A k p=B at HR2 HEB HB0;clear hp1 hp2 HNE hp3 hp4 hpi hpm;go_wp2_with fail
   go_loopw [47] (SolI m k g B w) (fun iv _=>m - (intOf iv).toNat)
   case atStart=>exact ⟨0,Nat.zero_le _,rfl,by rw [zf8];exact HR2,HG2⟩
   case round=>
    clear HR2 HG2;obtain ⟨i,hi,rfl,HR,HG⟩:=hrel
    by_cases hil:i<m
    . have hii:(i:Int)<(m:Int):=by omega
      have ci:=HR.out.cell hil (show k<25 by omega);have ck:=HR.out.cell hlt (show k<25 by omega);have lg:=HR.out.lt
      by_cases hik:i=k
      . have hd:((i:Int) == (k:Int))=true:=by rw [beq_iff_eq];omega
        have HS:=ze (V0 (A:=B) (k:=k) (i:=i) (.inl hik));clear ci ck hik;go_wp2_with fail;go_round
        case rel=>exact ⟨i+1,by omega,by go_num,by rw [HS.out];exact HR,HG⟩
        case measure=>simp [intOf];omega
      . have hd:((i:Int) == (k:Int))=false:=by rw [beq_eq_false_iff_ne];omega
        have HIK:=ze hik;have er:txt (freed B k i) i k=zh (B i k):=by unfold txt;rw [zfq]
        have ek:txt (freed B k i) k k=zh (B k k):=by unfold txt;rw [zgd]
        rw [er] at ci;rw [ek] at ck;clear er ek hik
        by_cases hz:B i k=0
        . have hI:(zh (B i k) == [48])=true:=by rw [beq_iff_eq];exact yO.2 hz
          have HS:=ze (V0 (A:=B) (k:=k) (i:=i) (.inr hz));clear hz;go_wp2_with fail;go_round
          case rel=>exact ⟨i+1,by omega,by go_num,by rw [HS.out];exact HR,HG⟩
          case measure=>simp [intOf];omega
        . have hI:(zh (B i k) == [48])=false:=by rw [beq_eq_false_iff_ne];exact fun e=>hz (yO.1 e)
          have s1:=HEB.out.short (Nat.le_of_lt hlt) HE.out hil (Nat.le_of_lt hlt);have s2:=HEB.out.short (Nat.le_of_lt hlt) HE.out hlt (Nat.le_of_lt hlt);have s3:=HEB.out.quot hlt HE.out hil (Nat.le_of_lt hlt) HB0.out;have hov:=fun w' =>ze2 (zh (B i k)) (zh (B k k)) w' (yp s1) (yp s2)
          unfold zuf at hov;rw [zhs s1 s2 HB0.out s3] at hov;clear hz s1 s2 s3;go_wp2_with fail;have cig:=zF lg ci;have ckg:=zF lg ck;refine xe (by kernel_rfl) (by kernel_rfl) ?_
          repeat (quiet_step (first | (go_at_call 41;exact zR (hov _))))
          refine wpQuiet_nil ?_;rintro w9 ⟨t9,rfl⟩;clear cig ckg;have hbB:=yq wr t9;replace HR:=ze (HR.out.below hbB);replace HG:=ze (Y0 HG.out hbB);generalize grown wr t9=WN at hbB HR HG |-;clear t9;clear ci ck lg hbB hov;go_wp2_with fail
          go_loopw [15] (SolC m k i g B w) (fun cv _=>m+1 - (intOf cv).toNat)
          case atStart=>exact ⟨k,Nat.le_refl _,by omega,rfl,by rw [zg4];exact HR,HG⟩
          case round=>
           clear HR HG;obtain ⟨c,hc1,hc2,rfl,HR,HG⟩:=hrel
           by_cases hcl:c<=m
           . have hci:(c:Int)<=(m:Int):=by omega
             have hc25:(c:Int)<25:=by omega
             have ci:=HR.out.cell hil (show c<25 by omega);have ck:=HR.out.cell hlt (show c<25 by omega);have lg:=HR.out.lt;have er:txt (zio B k i c) i c=zh (B i c):=by unfold txt;rw [zm7 (Nat.le_refl _)]
             have ek:txt (zio B k i c) k c=zh (B k c):=by unfold txt;rw [zv2 HIK.out]
             rw [er] at ci;rw [ek] at ck;have s1:=HEB.out.short (Nat.le_of_lt hlt) HE.out hil hcl;have s2:=HEB.out.short (Nat.le_of_lt hlt) HE.out hlt hcl;have s3:=HEB.out.quot hlt HE.out hil (Nat.le_of_lt hlt) HB0.out;have s4:=HEB.out.prod hlt HE.out hil hcl HB0.out;have s5:=HEB.out.diff hlt HE.out hil HIK.out hcl HB0.out;have htm:=fun w' =>zbr (zh (B i k / B k k)) (zh (B k c)) w' (yp s3) (yp s2)
             have hmi:=fun w' =>VE (zh (B i c)) (zh (B i k / B k k*B k c)) w' (yp s1) (yp s4)
             unfold VK at htm;unfold Vv at hmi;rw [Xg s3 s2 s4] at htm;rw [Xg s1 s4 s5] at hmi;clear s1 s2 s3 s4 s5 er ek;go_wp2_with fail;have cig:=zF lg ci;have ckg:=zF lg ck;refine yu 22 (by kernel_rfl) (by kernel_rfl) ?_;simp only [List.take_succ_cons,List.take_zero,List.drop_succ_cons,List.drop_zero]
             repeat (quiet_step (first | (go_at_call 23;exact zR (htm _)) | (go_at_call 24;exact zR (hmi _))))
             refine wpQuiet_nil ?_;rintro w9 ⟨t9,rfl⟩;clear cig ckg;have hbB:=yq wr t9;replace HR:=ze (HR.out.below hbB);replace HG:=ze (Y0 HG.out hbB);generalize grown wr t9=WN at hbB HR HG |-;clear t9;clear ci ck lg hbB htm hmi;have c2:=HR.out.cell hil (show c<25 by omega);have f2:=HR.out.frozen (i*25+c);have l2:=HR.out.lt;have hR2:=HR.out.set_ (i:=i) (show c<25 by omega) (zh (B i c - B i k / B k k*B k c));rw [zur hc1] at hR2;have HR2:=ze hR2;have HG2:=ze (HG.out.set_ g (i*25+c) (str (zh (B i c - B i k / B k k*B k c))));clear hR2;go_wp2_with fail;go_round
             case rel=>exact ⟨c+1,by omega,by omega,by go_num,HR2,HG2⟩
             case measure=>simp [intOf];omega
           . obtain rfl:c=m+1:=by omega
             have hR:=HR.out;rw [ziz HEB.out hlt HIK.out] at hR;have HR2:=ze hR;clear hR HR;go_wp2_with fail;go_round
             case rel=>exact ⟨i+1,by omega,by go_num,HR2,HG⟩
             case measure=>simp [intOf];omega
    . obtain rfl:i=m:=by omega
      have HEN:=ze (HEB.out.freed hlt HB0.out);go_wp2_with fail;go_round
      case rel=>exact ⟨k+1,freed B k i,by omega,by go_num,HEN,HR,HG⟩
      case measure=>simp [intOf];omega
end Go.Proofs.YtacfcmdlgebhgaaGreat
namespace Go.Proofs.YtacfcmdlgebhgaaGreat
structure xP (N np:Nat) (pf pt:Nat->Nat) (c:Nat->Rat) (fx:Nat->Option Rat) (wl:Nat->Rat) (asked:Nat->Bool):Prop where
 piped:YN N np pf pt c
 tied:zzp N np pf pt fx asked
 cd:∀ i,i<np->Dz 12 (c i)
 fd:∀ k,k<N->Dz 12 (xL fx k)
 wd:∀ k,k<N->Dz 12 (wl k)
 hN:N<=6
 hp:np<=9
section
variable {N np:Nat} {pf pt:Nat->Nat} {c:Nat->Rat} {fx:Nat->Option Rat} {wl:Nat->Rat} {asked:Nat->Bool}
def Xe (N np:Nat) (c:Nat->Rat) (fx:Nat->Option Rat) (wl:Nat->Rat) (asked:Nat->Bool) (i:Nat):Int:=
 ((vT np (fun j=>(c j).den):Int)*(vT N (fun k=>(xL fx k).den):Int))*((wl ((xZ (zt fx asked) N).getD i 0)).den:Int)
def X1 (N np:Nat):Nat:=10 ^ (12*np+12*N+12)
variable (h:xP N np pf pt c fx wl asked)
include h
theorem xP.den_ok {i:Nat} (hi:i<yS (zt fx asked) N):Xe N np c fx wl asked i≠0/\(Xe N np c fx wl asked i).natAbs<=X1 N np:=by
 obtain ⟨m1,_,_⟩:=Z2 _ hi
 obtain ⟨a1,a2⟩:=XG h.cd
 obtain ⟨b1,b2⟩:=XG h.fd
 have d2:=(h.wd _ m1).2
 have d3:=(wl ((xZ (zt fx asked) N).getD i 0)).den_nz
 unfold Xe X1
 refine ⟨Int.mul_ne_zero (Int.mul_ne_zero (by omega) (by omega)) (by omega),?_⟩
 rw [Int.natAbs_mul,Int.natAbs_mul,Nat.pow_add,Nat.pow_add]
 simp only [Int.natAbs_natCast]
 exact Nat.mul_le_mul (Nat.mul_le_mul a1 b1) d2
theorem xP.mul_c {i j:Nat} (hi:i<yS (zt fx asked) N) (hj:j<np):xq (Xe N np c fx wl asked i) (X1 N np) (c j):=by
 obtain ⟨m1,_,_⟩:=Z2 _ hi
 obtain ⟨b1,b2⟩:=XG h.fd
 unfold Xe X1
 refine (((xq.prod h.cd hj).scale _).scale _).mono ?_
 rw [Nat.pow_add,Nat.pow_add]
 simp only [Int.natAbs_natCast]
 exact Nat.mul_le_mul (Nat.mul_le_mul (Nat.le_refl _) b1) (h.wd _ m1).2
theorem xP.mul_o {i j k:Nat} (hi:i<yS (zt fx asked) N) (hj:j<np) (hk:k<N):xq (Xe N np c fx wl asked i) (X1 N np) (c j*xL fx k):=by
 obtain ⟨m1,_,_⟩:=Z2 _ hi
 unfold Xe X1
 refine (((xq.prod h.cd hj).mul (xq.prod h.fd hk)).scale _).mono ?_
 rw [Nat.pow_add,Nat.pow_add]
 simp only [Int.natAbs_natCast]
 exact Nat.mul_le_mul (Nat.le_refl _) (h.wd _ m1).2
theorem xP.mul_w {i:Nat} (hi:i<yS (zt fx asked) N):xq (Xe N np c fx wl asked i) (X1 N np) (wl ((xZ (zt fx asked) N).getD i 0)):=by
 obtain ⟨m1,_,_⟩:=Z2 _ hi
 obtain ⟨a1,a2⟩:=XG h.cd
 obtain ⟨b1,b2⟩:=XG h.fd
 unfold Xe X1
 refine ((xq.den _).scale' _).mono ?_
 rw [Nat.pow_add,Nat.pow_add,Int.natAbs_mul]
 simp only [Int.natAbs_natCast]
 exact Nat.mul_le_mul (Nat.mul_le_mul a1 b1) (h.wd _ m1).1
theorem xP.mul_tab {i n:Nat} (hi:i<yS (zt fx asked) N) (hn:n<=np) (j:Nat):xq (Xe N np c fx wl asked i) (X1 N np+4*n*X1 N np) (ZD pf pt c fx wl asked N n i j):=
 zkh pf pt c fx wl asked h.piped (fun i hi j hj=>h.mul_c hi hj) (fun i hi j hj k hk=>h.mul_o hi hj hk) (fun i hi=>h.mul_w hi) hi n hn j
theorem xP.big:X1 N np+4*np*X1 N np+4*X1 N np<=10 ^ 200:=by
 have h1:=h.hN
 have h2:=h.hp
 have h3:X1 N np<=10 ^ 192:=by unfold X1;exact Nat.pow_le_pow_right (by omega) (by omega)
 have h4:4*np*X1 N np<=36*X1 N np:=Nat.mul_le_mul (by omega) (Nat.le_refl _)
 have h5:(10:Nat) ^ 200=10 ^ 192*100000000:=by rw [show 200=192+8 by omega,Nat.pow_add]
 omega
theorem xP.short_of {i B:Nat} {q:Rat} (hi:i<yS (zt fx asked) N) (hq:xq (Xe N np c fx wl asked i) B q) (hB:B<=10 ^ 200):zG 50000 q:=by
 obtain ⟨a1,a2⟩:=h.den_ok hi
 have h1:=h.big
 exact Dz.short (hq.sz a1 hB (by omega)) (by omega)
theorem xP.rank_le:yS (zt fx asked) N<=6:=Nat.le_trans (Go.Proofs.YtacfcmdlgebhgaaGreat.rank_le _ _) h.hN
theorem zqi {n:Nat} (hn:n<=np) {i j:Nat} (hj:yS (zt fx asked) N<j):ZD pf pt c fx wl asked N n i j=0:=by
 have hput:∀ (A:Tab) (k o:Nat) (d:Rat),k<N->o<N->A i j=0->Vi fx asked (yS (zt fx asked) N) A k o d i j=0:=by
  intro A k o d hk ho hA
  unfold Vi
  by_cases hP:zt fx asked k=true
  rotate_left
  . rw [if_neg hP];exact hA
  rw [if_pos hP]
  have hrk:=Yn _ hk hP
  by_cases hQ:zt fx asked o=true
  . rw [if_pos hQ]
    have hro:=Yn _ ho hQ;unfold xx;rw [if_neg (by omega),if_neg (by omega)];exact hA
  rw [if_neg hQ]
  unfold xx;rw [if_neg (by omega),if_neg (by omega)];exact hA
 induction n with
 | zero=>unfold ZD;rw [if_neg (by omega)]
 | succ n ih=>
   unfold ZD;exact hput _ _ _ _ (h.piped.to_lt n (by omega)) (h.piped.from_lt n (by omega)) (hput _ _ _ _ (h.piped.from_lt n (by omega)) (h.piped.to_lt n (by omega)) (ih (by omega)))
theorem xP.elim:Vc (yS (zt fx asked) N) (ZD pf pt c fx wl asked N np) 200 0 (ZD pf pt c fx wl asked N np):=by
 refine ⟨zah.start (zn4 pf pt c fx wl asked h.piped h.tied) ?_,fun i c hc=>zqi h (Nat.le_refl _) hc⟩
 have h1:=h.big
 have h2:X1 N np+4*np*X1 N np+(X1 N np+4*np*X1 N np)<=10 ^ 200:=by
  have h2:=h.hp
  have h3:X1 N np<=10 ^ 192:=by unfold X1;exact Nat.pow_le_pow_right (by omega) (by have:=h.hN;omega)
  have h4:4*np*X1 N np<=36*X1 N np:=Nat.mul_le_mul (by omega) (Nat.le_refl _)
  have h5:(10:Nat) ^ 200=10 ^ 192*100000000:=by rw [show 200=192+8 by omega,Nat.pow_add]
  omega
 obtain ⟨X,h6,h7⟩:=zsf pf pt c fx wl asked (X:=X1 N np+4*np*X1 N np) h.piped (fun i hi j hj=>h.mul_c hi hj) (fun i hi j hj k hk=>h.mul_o hi hj hk) (fun i hi=>h.mul_w hi) (fun i hi=>by
  obtain ⟨a1,a2⟩:=h.den_ok hi
  exact ⟨a1,by omega⟩) (Nat.le_refl _)
 exact ⟨X,by simp only [Nat.pow_zero,Nat.mul_one];omega,h7⟩
theorem xP.fits:200*2 ^ yS (zt fx asked) N<=49999:=by
 have h1:=h.rank_le
 have h2:2 ^ yS (zt fx asked) N<=2 ^ 6:=Nat.pow_le_pow_right (by omega) h1
 omega
end
def zdd (m:Nat) (R:Nat->Nat->List UInt8):Nat->Nat->List UInt8:=fun i c=>if i<m then R i c else [48]
theorem zbp (A:Tab) (i c:Nat) (d:Rat):xx A i c d i c=A i c+d:=by unfold xx;rw [if_pos ⟨rfl,rfl⟩]
theorem zcm {A:Tab} {i c i' c' :Nat} {d:Rat} (h:¬ (i' =i/\c' =c)):xx A i c d i' c' =A i' c' :=by unfold xx;rw [if_neg h]
theorem zm8 (R:Nat->Nat->List UInt8) (i c:Nat) (x:List UInt8):upd R i c x i c=x:=by unfold upd;rw [if_pos ⟨rfl,rfl⟩]
theorem zmh {R:Nat->Nat->List UInt8} {i c i' c' :Nat} {x:List UInt8} (h:¬ (i' =i/\c' =c)):upd R i c x i' c' =R i' c' :=by unfold upd;rw [if_neg h]
theorem zhn {m i j:Nat} {R:Nat->Nat->List UInt8} (hi:i<m):zdd m R i j=R i j:=by unfold zdd;rw [if_pos hi]
def Xo (fx:Nat->Option Rat) (asked:Nat->Bool) (k:Nat):Option Nat:=if zt fx asked k=true then some (yS (zt fx asked) k) else none
section
variable {N:Nat} {fx:Nat->Option Rat} {asked:Nat->Bool}
theorem znw {A:Tab} {k o i j B b:Nat} {d:Rat} (hk:k<N) (ho:o<N) (hi:i<yS (zt fx asked) N) {s:Nat->Int} (hA:∀ i,i<yS (zt fx asked) N->∀ j,xq (s i) B (A i j)) (hd:∀ i,i<yS (zt fx asked) N->xq (s i) b d)
 (hdo:∀ i,i<yS (zt fx asked) N->xq (s i) b (d*xL fx o)) (hs:∀ i,i<yS (zt fx asked) N->∀ B q,xq (s i) B q->B<=10 ^ 200->zG 50000 q) (hB:B+b+b<=10 ^ 200) (hx:zG 50000 (xL fx o)):
 ztf (yS (zt fx asked) N) (zdd (yS (zt fx asked) N) (txt A)) (Xo fx asked k) (Xo fx asked o) (zh (xL fx o)) (zh d) i j=txt (Vi fx asked (yS (zt fx asked) N) A k o d) i j:=by
 unfold Xo Vi
 by_cases hP:zt fx asked k=true
 rotate_left
 . rw [if_neg hP,if_neg hP]
   show zdd _ (txt A) i j=_
   unfold zdd;rw [if_pos hi]
 rw [if_pos hP,if_pos hP]
 have hr:=Yn _ hk hP;generalize yS (zt fx asked) N=m at*;generalize hrr:yS (zt fx asked) k=r at*;have sd:=hs r hr _ _ (hd r hr) (by omega);have s1:=hs r hr _ _ (hA r hr r) (by omega);have hb1:∀ j,xq (s r) (B+b) (xx A r r d r j):=fun j=>ZV (hA r hr) (hd r hr)
 have s2:=hs r hr _ _ (hb1 r) (by omega)
 have e1:∀ i j,i<m->upd (zdd m (txt A)) r r (ZE (zdd m (txt A) r r) (zh d)) i j=txt (xx A r r d) i j:=by
  intro i j hi;rw [zbp] at s2;unfold ZE;rw [zhn hr,show txt A r r=zh (A r r) from rfl,Xg s1 sd s2]
  by_cases h1:i=r/\j=r
  . rw [h1.1,h1.2,zm8];unfold txt;rw [zbp]
  rw [zmh h1,zhn hi];unfold txt;rw [zcm h1]
 by_cases hQ:zt fx asked o=true
 . rw [if_pos hQ,if_pos hQ]
   generalize yS (zt fx asked) o=q at*;have s3:=hs r hr _ _ (ZV (i' :=r) (c' :=q) hb1 (j:=q) (hd r hr).neg) (by omega);have s4:=hs r hr _ _ (hb1 q) (by omega);have eb:xx (xx A r r d) r q (-d) r q=xx A r r d r q - d:=by rw [zbp];exact (Rat.sub_eq_add_neg _ _).symm
   rw [eb] at s3
   show upd (upd (zdd m (txt A)) r r (ZE (zdd m (txt A) r r) (zh d))) r q (Vv (upd (zdd m (txt A)) r r (ZE (zdd m (txt A) r r) (zh d)) r q) (zh d)) i j=_
   rw [e1 r q hr];unfold Vv;rw [show txt (xx A r r d) r q=zh (xx A r r d r q) from rfl,Xg s4 sd s3, <- eb]
   by_cases h1:i=r/\j=q
   . rw [h1.1,h1.2,zm8];rfl
   rw [zmh h1,e1 i j hi];unfold txt;rw [zcm (A:=xx A r r d) h1]
 rw [if_neg hQ,if_neg hQ]
 have s3:=hs r hr _ _ (ZV (i' :=r) (c' :=m) hb1 (j:=m) (hdo r hr)) (by omega);have s4:=hs r hr _ _ (hb1 m) (by omega);have s5:=hs r hr _ _ (hdo r hr) (by omega);have eb:xx (xx A r r d) r m (d*xL fx o) r m=xx A r r d r m+d*xL fx o:=zbp _ _ _ _;rw [eb] at s3
 show upd (upd (zdd m (txt A)) r r (ZE (zdd m (txt A) r r) (zh d))) r m (ZE (upd (zdd m (txt A)) r r (ZE (zdd m (txt A) r r) (zh d)) r m) (VK (zh d) (zh (xL fx o)))) i j=_
 rw [e1 r m hr];have et:VK (zh d) (zh (xL fx o))=zh (d*xL fx o):=by unfold VK;rw [Xg sd hx s5]
 rw [et]
 have e2:ZE (txt (xx A r r d) r m) (zh (d*xL fx o))=zh (xx (xx A r r d) r m (d*xL fx o) r m):=by
  rw [eb];unfold ZE;rw [show txt (xx A r r d) r m=zh (xx A r r d r m) from rfl,Xg s4 s5 s3]
 rw [e2]
 by_cases h1:i=r/\j=m
 . rw [h1.1,h1.2,zm8];rfl
 rw [zmh h1,e1 i j hi];unfold txt;rw [zcm (A:=xx A r r d) h1]
end
section
variable {N np:Nat} {pf pt:Nat->Nat} {c:Nat->Rat} {fx:Nat->Option Rat} {wl:Nat->Rat} {asked:Nat->Bool}
def zg0 (pf pt:Nat->Nat) (c:Nat->Rat) (fx:Nat->Option Rat) (wl:Nat->Rat) (asked:Nat->Bool) (N n:Nat):Tab:=Vi fx asked (yS (zt fx asked) N) (ZD pf pt c fx wl asked N n) (pf n) (pt n) (c n)
variable (h:xP N np pf pt c fx wl asked)
include h
theorem xP.mul_half {i n:Nat} (hi:i<yS (zt fx asked) N) (hn:n<np) (j:Nat):xq (Xe N np c fx wl asked i) (X1 N np+4*n*X1 N np+X1 N np+X1 N np) (zg0 pf pt c fx wl asked N n i j):=
 zca fx asked (h.mul_tab hi (by omega)) (h.mul_c hi hn) (h.mul_o hi hn (h.piped.to_lt n hn)) j
theorem xP.le_big {n:Nat} (hn:n<np):X1 N np+4*n*X1 N np+X1 N np+X1 N np+X1 N np+X1 N np<=10 ^ 200:=by
 have h1:=h.big
 have h2:4*n*X1 N np<=4*np*X1 N np:=Nat.mul_le_mul (by omega) (Nat.le_refl _)
 omega
theorem xP.short_out {k:Nat} (hk:k<N):zG 50000 (xL fx k):=Dz.short (h.fd k hk) (by omega)
theorem xP.put1 {n i j:Nat} (hn:n<np) (hi:i<yS (zt fx asked) N):
 ztf (yS (zt fx asked) N) (zdd (yS (zt fx asked) N) (txt (ZD pf pt c fx wl asked N n))) (Xo fx asked (pf n)) (Xo fx asked (pt n)) (zh (xL fx (pt n))) (zh (c n)) i j=txt (zg0 pf pt c fx wl asked N n) i j:=
 znw (s:=Xe N np c fx wl asked) (h.piped.from_lt n hn) (h.piped.to_lt n hn) hi (fun i hi=>h.mul_tab hi (by omega)) (fun i hi=>h.mul_c hi hn) (fun i hi=>h.mul_o hi hn (h.piped.to_lt n hn)) (fun i hi B q hq hB=>h.short_of hi hq hB) (by have:=h.le_big hn;omega) (h.short_out (h.piped.to_lt n hn))
theorem xP.put2 {n i j:Nat} (hn:n<np) (hi:i<yS (zt fx asked) N):
 ztf (yS (zt fx asked) N) (zdd (yS (zt fx asked) N) (txt (zg0 pf pt c fx wl asked N n))) (Xo fx asked (pt n)) (Xo fx asked (pf n)) (zh (xL fx (pf n))) (zh (c n)) i j=txt (ZD pf pt c fx wl asked N (n+1)) i j:=
 znw (s:=Xe N np c fx wl asked) (h.piped.to_lt n hn) (h.piped.from_lt n hn) hi (fun i hi=>h.mul_half hi hn) (fun i hi=>h.mul_c hi hn) (fun i hi=>h.mul_o hi hn (h.piped.from_lt n hn)) (fun i hi B q hq hB=>h.short_of hi hq hB) (by have:=h.le_big hn;omega) (h.short_out (h.piped.from_lt n hn))
theorem xP.tab_smallS {n:Nat} (hn:n<=np) (i j:Nat):zV (zdd (yS (zt fx asked) N) (txt (ZD pf pt c fx wl asked N n)) i j):=by
 unfold zdd
 split
 rotate_left
 . unfold zV;simp
 next hi=>
 refine zjg (h.short_of hi (h.mul_tab hi hn j) ?_);have h1:=h.big;have h2:4*n*X1 N np<=4*np*X1 N np:=Nat.mul_le_mul (by omega) (Nat.le_refl _)
 omega
theorem xP.half_smallS {n:Nat} (hn:n<np) (i j:Nat):zV (zdd (yS (zt fx asked) N) (txt (zg0 pf pt c fx wl asked N n)) i j):=by
 unfold zdd
 split
 . next hi=>exact zjg (h.short_of hi (h.mul_half hi hn j) (by have:=h.le_big hn;omega))
 unfold zV;simp
end
end Go.Proofs.YtacfcmdlgebhgaaGreat
namespace Go.Proofs.YtacfcmdlgebhgaaGreat
open Go.RowKit Go.Deep
attribute [local go_sem ↓] Go.wp_at_zero Go.wp_at_succ
def row {α:Type} (N:Nat) (f:Nat->α):List α:=(List.range N).map f
theorem Xz {α:Type} (N:Nat) (f:Nat->α):(row N f).length=N:=by simp [row]
theorem zeu {α:Type} {N:Nat} {f:Nat->α} {k:Nat} (hk:k<N):(row N f)[k]?=some (f k):=by
 unfold row
 rw [List.getElem?_map,List.getElem?_range hk];rfl
theorem ziw {α:Type} {N:Nat} {f g:Nat->α} (h:∀ k,k<N->f k=g k):row N f=row N g:=by
 unfold row
 exact List.map_congr_left fun k hk=>h k (List.mem_range.1 hk)
theorem zxd {α:Type} {N:Nat} {f g:Nat->α} {k:Nat} {v:α} (hv:g k=v) (h:∀ j,j<N->j≠k->g j=f j):(row N f).set k v=row N g:=by
 apply List.ext_getElem?
 intro j
 rw [List.getElem?_set]
 rcases Nat.lt_or_ge j N with hj | hj
 . rw [Xz]
   by_cases hk:k=j
   . subst hk;rw [if_pos rfl,if_pos hj,zeu hj,hv]
   rw [if_neg hk,zeu hj,zeu hj,h j hj (fun e=>hk e.symm)]
 . have h1:(row N g)[j]?=none:=List.getElem?_eq_none (by rw [Xz];exact hj)
   have h2:(row N f)[j]?=none:=List.getElem?_eq_none (by rw [Xz];exact hj);rw [h1,h2,Xz]
   split
   . rw [if_neg (by omega)]
   rfl
def xE (w:World) (g:Nat) (t:TypeId) (N:Nat) (f:Nat->Value):Prop:=Blk w g t (row N f).toArray
section
variable {w w' :World} {g N:Nat} {t:TypeId} {f:Nat->Value}
theorem xE.lt (h:xE w g t N f):g<w.heap.size:=Blk.lt h
theorem xE.frozen (h:xE w g t N f) (j:Nat):w.frozen? ⟨g,j,none⟩=false:=Blk.frozen h j
theorem xE.below (h:xE w g t N f) (hb:Below w.heap.size w w'):xE w' g t N f:=Blk.below h hb h.lt
theorem xE.far (h:xE w g t N f) {p:Addr} (hp:g≠p.block) (u:Value):xE (w.setCell p u) g t N f:=Blk.far h hp u
theorem xE.cell (h:xE w g t N f) {k:Nat} (hk:k<N):w.cell? ⟨g,k,none⟩=some (f k):=by
 unfold xE at h
 rw [h.cell,List.getElem?_toArray,zeu hk]
theorem xE.set_ (h:xE w g t N f) {k:Nat} {v:Value} {f' :Nat->Value} (hv:f' k=v) (hf:∀ j,j<N->j≠k->f' j=f j):xE (w.setCell ⟨g,k,none⟩ v) g t N f' :=by
 unfold xE at h |-
 have:=h.set_ k v
 rw [List.setIfInBounds_toArray,zxd hv hf] at this
 exact this
theorem xE.grown {r:Option Nat} (h:xE w g t N f) (hb:w.grownBy w' r) (hg:some g≠r):xE w' g t N f:=Blk.grown h hb hg
theorem xE.congr (h:xE w g t N f) {f' :Nat->Value} (e:∀ k,k<N->f k=f' k):xE w g t N f' :=by
 unfold xE at h |-
 rw [<- ziw e];exact h
end
theorem yI.congr {w:World} {g M:Nat} {R R' :Nat->Nat->List UInt8} (h:yI w g M R) (e:∀ i c,i<M->c<25->R i c=R' i c):yI w g M R' :=by
 unfold yI at h |-
 have e2:vE M R=vE M R' :=by
  unfold vE
  refine List.map_congr_left fun j hj=>?_
  have hj:=List.mem_range.1 hj
  unfold zih
  rw [e _ _ (by omega) (by omega)]
 rw [<- e2];exact h
theorem zlo (n:Nat) (v:Value):List.replicate n v=row n fun _=>v:=by
 apply List.ext_getElem?
 intro j
 rcases Nat.lt_or_ge j n with h | h
 . rw [zeu h,List.getElem?_replicate,if_pos h]
 . rw [List.getElem?_replicate,if_neg (by omega),List.getElem?_eq_none (by rw [Xz];exact h)]
theorem ztw:(Tryz.prog.info? 28).map (fun i=>(i.zero,i.size,i.bytes))=some (some (.string ⟨#[]⟩),1,16):=by kernel_rfl
theorem zns (k:IntKind) (n:Nat) (hn:n<=1073741824) (w:World):
 (Instr.makeSlice 27 (.int k (n:Int)) (.int k (n:Int))).run Tryz.prog w= .ok (.slice (some ⟨w.heap.size,0,none⟩) n n) (w.alloc (.cells (row n (fun _=>str [])).toArray 28)):=by
 rw [run_make_row' 27 28 (.string ⟨#[]⟩) 16 Tryz.underlying27 ztw rfl k k n (by omega) (by omega) w]
 congr 3
 apply Array.ext'
 rw [toList_madeCells_one]
 exact zlo _ _
theorem zw5 (k:IntKind) (n:Nat) (hn:n<=1073741824) (w:World):
 (Instr.makeSlice 29 (.int k (n:Int)) (.int k (n:Int))).run Tryz.prog w= .ok (.slice (some ⟨w.heap.size,0,none⟩) n n) (w.alloc (.cells (row n (fun _=>.int .i64 0)).toArray 3)):=by
 rw [run_make_row' 29 3 (.int .i64 0) 8 Tryz.underlying29 zba rfl k k n (by omega) (by omega) w]
 congr 3
 apply Array.ext'
 rw [toList_madeCells_one]
 exact zlo _ _
theorem zx5:(Tryz.prog.info? 79).map (fun i=>(i.zero,i.size,i.bytes))=some (some (.agg (Array.replicate 25 (.string ⟨#[]⟩))),25,400):=by kernel_rfl
theorem Tryz.underlying78:Tryz.prog.underlying 78=some (.slice 79):=by kernel_rfl
theorem zf5 {z:Array Value} {v:Value} (n:Nat) (h0:0<z.size) (h:∀ i (hi:i<z.size),z[i]=v):(madeCells z n).toList=List.replicate n v:=by
 apply List.ext_getElem?
 intro j
 unfold madeCells
 rcases Nat.lt_or_ge j n with hj | hj
 . have h1:j % z.size<z.size:=Nat.mod_lt _ h0
   simp [hj,List.getElem?_replicate,h _ h1,getElem!_pos,h1]
 . simp [hj,List.getElem?_replicate]
theorem zo6 (n:Nat):vE n (fun _ _=>[])=List.replicate (n*25) (.string ⟨#[]⟩):=by
 rw [zlo];rfl
theorem zw2:(Value.agg (Array.replicate 25 (.string ⟨#[]⟩))).cells=Array.replicate 25 (.string ⟨#[]⟩):=rfl
theorem zt2 (k:IntKind) (n:Nat) (hn:n<=1000) (w:World):
 (Instr.makeSlice 78 (.int k (n:Int)) (.int k (n:Int))).run Tryz.prog w= .ok (.slice (some ⟨w.heap.size,0,none⟩) n n) (w.alloc (.cells (vE n (fun _ _=>[])).toArray 79)):=by
 obtain ⟨i,hi,hzz⟩:=Option.map_eq_some_iff.1 zx5
 simp only [Prod.mk.injEq] at hzz
 obtain ⟨hz,hs,hb⟩:=hzz
 rw [run_make (P:=Tryz.prog) w 78 79 i _ Tryz.underlying78 hi hz k k n n (by omega) (by omega) (by rw [hb];omega) (by omega)]
 have e:madeCells (Value.agg (Array.replicate 25 (.string ⟨#[]⟩))).cells ((n:Int).toNat*i.size)=(vE n (fun _ _=>[])).toArray:=by
  apply Array.ext'
  rw [hs,zw2,zf5 (v:=.string ⟨#[]⟩) _ (by rw [Array.size_replicate];omega) (fun i hi=>by rw [Array.getElem_replicate]),zo6]
  rfl
 rw [e]
 rfl
def zu0 (fx:Nat->Option Rat) (k:Nat):Nat->Value:=fun j=>str (if j<k then zh (xL fx j) else [])
def atF (fx:Nat->Option Rat) (asked:Nat->Bool) (k:Nat):Nat->Value:=fun j=>.int .i64 (if j<k then zzq (Xo fx asked j) else 0)
def Xn (fx:Nat->Option Rat) (asked:Nat->Bool) (k:Nat):List Int:=(xZ (zt fx asked) k).map fun (j:Nat)=>(j:Int)
def HeaM (N:Nat) (fx:Nat->Option Rat) (asked:Nat->Bool) (gO bO gA bA bF:Nat) (w:World) (cs:Array Value) (iv:Value) (wr:World):Prop:=
 ∃ (k:Nat) (fv:Value),k<=N/\iv= .int .i64 k/\Hid (Blk wr w.heap.size 26 cs)/\Hid (xE wr gO 28 N (zu0 fx k))/\Hid (Blk wr bO 27 #[.slice (some ⟨gO,0,none⟩) N N])/\
  Hid (xE wr gA 3 N (atF fx asked k))/\Hid (Blk wr bA 29 #[.slice (some ⟨gA,0,none⟩) N N])/\Hid (Blk wr bF 29 #[fv])/\
  Hid (wr.ownsRow (bF+1) 3 1 fv (yS (zt fx asked) k) (VD (Xn fx asked k)))/\Hid (Below w.heap.size w wr)
theorem zcj {w:World} {base:Nat} {e:TypeId} {size:Nat} {v:Value} {n:Nat} {xs:List Value} (h:w.ownsRow base e size v n xs) {p:Addr} (hp:p.block<base) (u:Value):(w.setCell p u).ownsRow base e size v n xs:=by
 refine ⟨h.1,?_⟩
 rcases h.2 with h0 | ⟨g,cap,cur,hv,hg,hh,r⟩
 . exact .inl h0
 . exact .inr ⟨g,cap,cur,hv,hg,(Below.heap_setCell w p u g (by omega)).trans hh,r⟩
theorem zbm {w:World} {base:Nat} {e:TypeId} {size:Nat} {v:Value} {n:Nat} {xs:List Value} (h:w.ownsRow base e size v n xs):∃ A c,v= .slice A n c:=by
 rcases h.2 with ⟨h0,h1⟩ | ⟨g,cap,cur,hv,_⟩
 . exact ⟨none,0,by rw [h0,h1]⟩
 . exact ⟨_,_,hv⟩
theorem zoe {fx:Nat->Option Rat} {asked:Nat->Bool} {k:Nat} (h:¬ ((fx k).isSome=false/\asked k=true)):zt fx asked k=false:=by
 unfold zt
 cases hf:(fx k) with
 | some v=>rfl
 | none=>
   cases ha:asked k with
   | false=>rfl
   | true=>exact absurd ⟨by rw [hf];rfl,ha⟩ h
theorem zw7 {fx:Nat->Option Rat} {asked:Nat->Bool} {k:Nat} (h1:(fx k).isSome=false) (h2:asked k=true):zt fx asked k=true:=by
 unfold zt
 cases hf:(fx k) with
 | some v=>rw [hf] at h1;cases h1
 | none=>rw [h2];rfl
theorem zsm {fx:Nat->Option Rat} {asked:Nat->Bool} {k:Nat} (h:zt fx asked k=false):Xo fx asked k=none:=by unfold Xo;rw [h];rfl
theorem zw9 {fx:Nat->Option Rat} {asked:Nat->Bool} {k:Nat} (h:zt fx asked k=true):Xo fx asked k=some (yS (zt fx asked) k):=by unfold Xo;rw [if_pos h]
theorem zpy {q:Rat} (h:zG 50000 q):Vv [48] (zh q)=zh (-q):=by
 have h0:zG 50000 (0:Rat):=Dz.short (Dz.zero 1) (by omega)
 have h1:zG 50000 (0 - q):=by rw [show (0:Rat) - q= -q by grind];exact ⟨by rw [Rat.neg_num,Int.natAbs_neg];exact h.1,by rw [Rat.neg_den];exact h.2⟩
 unfold Vv
 rw [show ([48]:List UInt8)=zh 0 from (yO.2 rfl).symm,Xg h0 h h1,show (0:Rat) - q= -q by grind]
theorem zg2 {fx:Nat->Option Rat} {asked:Nat->Bool} {N i:Nat} (hi:i<yS (zt fx asked) N):(VD (Xn fx asked N))[i]?=some (.int .i64 (((xZ (zt fx asked) N).getD i 0:Nat):Int)):=by
 have h:i<(xZ (zt fx asked) N).length:=hi
 unfold VD Xn
 simp [List.getElem?_map,List.getElem?_eq_getElem h,List.getD]
def zeq (m:Nat) (v:Nat->List UInt8) (i:Nat):Nat->Nat->List UInt8:=fun i' c=>if i' <i then (if c=m then v i' else [48]) else []
def zj8 (m:Nat) (v:Nat->List UInt8) (i k:Nat):Nat->Nat->List UInt8:=fun i' c=>if i' =i/\c<k then [48] else zeq m v i i' c
theorem zp5 (m:Nat) (v:Nat->List UInt8) (i:Nat):zj8 m v i 0=zeq m v i:=by
 funext i' c
 unfold zj8
 rw [if_neg (by omega)]
theorem zrg (m:Nat) (v:Nat->List UInt8) (i k:Nat):upd (zj8 m v i k) i k [48]=zj8 m v i (k+1):=by
 funext i' c
 unfold upd zj8
 by_cases h:i' =i/\c=k
 . rw [if_pos h,if_pos (by omega)]
 rw [if_neg h]
 by_cases h2:i' =i/\c<k
 . rw [if_pos h2,if_pos (by omega)]
 rw [if_neg h2,if_neg (by omega)]
theorem zk3 {m i:Nat} {v:Nat->List UInt8} {x y:List UInt8} (hy:y=v i):∀ i' c,i' <m->c<25->upd (upd (zj8 m v i 25) i m x) i m y i' c=zeq m v (i+1) i' c:=by
 intro i' c _ hc
 unfold upd zj8 zeq
 by_cases h:i' =i
 . subst h
   by_cases h2:c=m
   . rw [if_pos ⟨rfl,h2⟩,if_pos (by omega),if_pos h2,hy]
   rw [if_neg (fun h=>h2 h.2),if_neg (fun h=>h2 h.2),if_pos ⟨rfl,hc⟩,if_pos (by omega),if_neg h2]
 rw [if_neg (fun h2=>h h2.1),if_neg (fun h2=>h h2.1),if_neg (fun h2=>h h2.1)]
 by_cases h3:i' <i
 . rw [if_pos h3,if_pos (show i' <i+1 by omega)]
 rw [if_neg h3,if_neg (show ¬ i' <i+1 by omega)]
theorem zwy (N m gA gR gO bA bR bF bO k o cF:Nat) (F:Option Addr) (rk ro:Option Nat) (c x:List UInt8) (R:Nat->Nat->List UInt8) (w:World) (hA:w.cell? ⟨bA,0,none⟩=some (.slice (some ⟨gA,0,none⟩) N N)) (hk:k<N) (ho:o<N) (hN:N<=1000)
 (hak:w.cell? ⟨gA,k,none⟩=some (.int .i64 (zzq rk))) (hao:w.cell? ⟨gA,o,none⟩=some (.int .i64 (zzq ro))) (hB:w.cell? ⟨bR,0,none⟩=some (.slice (some ⟨gR,0,none⟩) m m)) (hr:∀ r,rk=some r->r<m) (hq:∀ r,ro=some r->r<m) (hF:w.cell? ⟨bF,0,none⟩=some (.slice F m cF)) (hO:w.cell? ⟨bO,0,none⟩=some (.slice (some ⟨gO,0,none⟩) N N)) (hxo:w.cell? ⟨gO,o,none⟩=some (str x)) (hx:zV x) (hm:m<=24) (hR:yI w gR m R)
 (hs:∀ i j,zV (R i j)) (hc:zV c) (d1:bA≠gR) (d2:gA≠gR) (d3:bR≠gR) (d4:bF≠gR) (d5:bO≠gR) (d6:gO≠gR):
 Calls Tryz.prog 48 #[.int .i64 k,.int .i64 o,str c,.pointer (some ⟨bA,0,none⟩),.pointer (some ⟨bR,0,none⟩),.pointer (some ⟨bF,0,none⟩),.pointer (some ⟨bO,0,none⟩)] w (zd1 gR m (ztf m R rk ro x c) w):=by
 cases rk with
 | none=>exact zu2 N m gA gR bA bR bF bO k o c R w hA hk hN hak hR
 | some r=>
   cases ro with
   | none=>exact zsr N m gA gR gO bA bR bF bO k o r cF F c x R w hA hk ho hN hak hao hB (hr r rfl) hF hO hxo hx hm hR hs hc d1 d2 d3 d4 d5 d6
   | some q=>exact zvi N m gA gR bA bR bF bO k o r q c R w hA hk ho hN hak hao hB (hr r rfl) (hq q rfl) hm hR hs hc d1 d2 d3
theorem zye {fx:Nat->Option Rat} {asked:Nat->Bool} {N k r:Nat} (hk:k<N) (h:Xo fx asked k=some r):r<yS (zt fx asked) N:=by
 unfold Xo at h
 by_cases hP:zt fx asked k=true
 rotate_left
 . rw [if_neg hP] at h;cases h
 rw [if_pos hP] at h
 injection h with h
 rw [<- h];exact Yn _ hk hP
theorem Vc.answer_dz {m E B:Nat} {A0 A:Tab} (h:Vc m A0 E m A) (hle:E*2 ^ m<=B) {i:Nat} (hi:i<m):Dz B (A i m / A i i):=by
 obtain ⟨t,h1,h2,h3⟩:=h.1.2.2.1.diag hi (h.1.2.1 i hi).1
 have hp:(10:Nat) ^ (E*2 ^ m)<=10 ^ B:=Nat.pow_le_pow_right (by omega) hle
 exact h3.sz h1 hp (Nat.le_trans h2 hp)
def zrw (fx:Nat->Option Rat) (asked:Nat->Bool) (x:Nat->Rat) (i:Nat):Nat->Value:=fun j=>str (if zt fx asked j=true/\yS (zt fx asked) j<i then zh (x (yS (zt fx asked) j)) else zh (xL fx j))
theorem zsu {fx:Nat->Option Rat} {asked:Nat->Bool} {x:Nat->Rat} {N:Nat}:∀ j,j<N->zu0 fx N j=zrw fx asked x 0 j:=by
 intro j hj
 unfold zu0 zrw
 rw [if_pos hj,if_neg (by omega)]
theorem zud {fx:Nat->Option Rat} {asked:Nat->Bool} {x:Nat->Rat} {N:Nat}:∀ j,j<N->zrw fx asked x (yS (zt fx asked) N) j=str (zh (zkt fx asked x j)):=by
 intro j hj
 unfold zrw
 by_cases h:zt fx asked j=true
 . rw [if_pos ⟨h,Yn _ hj h⟩,Ys _ _ h]
 rw [if_neg (fun h2=>h h2.1),zac _ _ h]
theorem zwt {fx:Nat->Option Rat} {asked:Nat->Bool} {x:Nat->Rat} {N i:Nat} (hi:i<yS (zt fx asked) N):zrw fx asked x (i+1) ((xZ (zt fx asked) N).getD i 0)=str (zh (x i)):=by
 obtain ⟨m1,m2,m3⟩:=Z2 _ hi
 unfold zrw
 rw [if_pos ⟨m2,by omega⟩,m3]
theorem zvj {fx:Nat->Option Rat} {asked:Nat->Bool} {x:Nat->Rat} {N i:Nat} (hi:i<yS (zt fx asked) N):∀ j,j<N->j≠(xZ (zt fx asked) N).getD i 0->zrw fx asked x (i+1) j=zrw fx asked x i j:=by
 intro j hj hne
 unfold zrw
 congr 1
 by_cases h:zt fx asked j=true
 rotate_left
 . rw [if_neg (fun h2=>h h2.1),if_neg (fun h2=>h h2.1)]
 have h2:yS (zt fx asked) j≠i:=by
  intro e;have:=Vm _ hj h;rw [e] at this;exact hne this.symm
 by_cases h3:yS (zt fx asked) j<i
 . rw [if_pos ⟨h,by omega⟩,if_pos ⟨h,h3⟩]
 rw [if_neg (fun h4=>by omega),if_neg (fun h4=>h3 h4.2)]
def HeaO (fx:Nat->Option Rat) (asked:Nat->Bool) (x:Nat->Rat) (N m gO bO bF B8:Nat) (Af A8:Option Addr) (cf c8:Nat) (w:World) (iv:Value) (wr:World):Prop:=
 ∃ i:Nat,i<=m/\iv= .int .i64 i/\Hid (xE wr gO 28 N (zrw fx asked x i))/\Hid (Blk wr bO 27 #[.slice (some ⟨gO,0,none⟩) N N])/\Hid (Blk wr bF 29 #[.slice Af m cf])/\
  Hid (wr.ownsRow (bF+1) 3 1 (.slice Af m cf) m (VD (Xn fx asked N)))/\Hid (wr.ownsRow B8 28 1 (.slice A8 m c8) m ((List.range m).map fun i=>str (zh (x i))))/\Hid (Below w.heap.size w wr)
def HeaP (n:Net) (c:Nat->Rat) (fx:Nat->Option Rat) (wl:Nat->Rat) (asked:Nat->Bool) (N m:Nat) (WF:World) (iv:Value) (wr:World):Prop:=
 ∃ i:Nat,i<=n.pipes.length/\iv= .int .i64 i/\Hid (yI wr WF.heap.size m (txt (ZD n.pf n.pt c fx wl asked N i)))/\Hid (Blk wr (WF.heap.size+1) 78 #[.slice (some ⟨WF.heap.size,0,none⟩) m m])/\Hid (Below WF.heap.size WF wr)
def HeaR (m:Nat) (v:Nat->List UInt8) (WF:World) (iv:Value) (wr:World):Prop:=
 ∃ i:Nat,i<=m/\iv= .int .i64 i/\Hid (yI wr WF.heap.size m (zeq m v i))/\Hid (Blk wr (WF.heap.size+1) 78 #[.slice (some ⟨WF.heap.size,0,none⟩) m m])/\Hid (Below WF.heap.size WF wr)
def HeaC (m:Nat) (v:Nat->List UInt8) (i:Nat) (WF:World) (cv:Value) (wr:World):Prop:=
 ∃ k:Nat,k<=25/\cv= .int .i64 k/\Hid (yI wr WF.heap.size m (zj8 m v i k))/\Hid (Blk wr (WF.heap.size+1) 78 #[.slice (some ⟨WF.heap.size,0,none⟩) m m])/\Hid (Below WF.heap.size WF wr)
def zq5 (n:Net) (c:Nat->Rat) (fx:Nat->Option Rat) (wl:Nat->Rat) (asked:Nat->Bool) (w:World) (e:Ending) (w' :World):Prop:=
 ∃ (A:Option Addr) (cap:Nat) (h:Nat->Rat),e= .returned (.slice A n.nodes.length cap)/\cap=n.nodes.length/\Yp n.nodes.length n.pipes.length n.pf n.pt c fx wl asked h/\(∀ k,k<n.nodes.length->Dz 13000 (h k))/\
  zK w' w'.heap.size 1 A n.nodes.length (row n.nodes.length fun k=>str (zh (h k)))/\Below w.heap.size w w'
theorem zag (vn vc vh vw vb:Value) (n:Net) (cs:List (List UInt8)) (hl wll:List yU) (bs:List Bool) (c:Nat->Rat) (fx:Nat->Option Rat) (wl:Nat->Rat) (w:World) (hn:Zw w vn n) (hc:yY w vc cs) (hh:yk w vh hl) (hw:yk w vw wll) (hb:Zy w vb bs)
 (hcl:cs.length=n.pipes.length) (hct:∀ i (h:i<cs.length),cs[i]=zh (c i)) (hfx:∀ k,k<n.nodes.length->Ym hl (k:Int)=zh (xL fx k)/\(hl.find? (fun v=>v.node == (k:Int))).isSome=(fx k).isSome)
 (hwl:∀ k,k<n.nodes.length->Ym wll (k:Int)=zh (wl k)) (hbl:bs.length=n.nodes.length) (he:n.Ends) (hg:xP n.nodes.length n.pipes.length n.pf n.pt c fx wl (fun k=>bs.getD k false)):
 Calls Tryz.prog 20 #[vn,vc,vh,vw,vb] w (zq5 n c fx wl (fun k=>bs.getD k false) w):=by
 obtain ⟨A0,k0,c0,A1,k1,c1,A2,k2,c2,A3,k3,c3,rfl,hn0,hn1,hn2,hn3⟩:=hn
 have hk0:k0=n.nodes.length:=by obtain ⟨A',c',e,_⟩:=hn0;injection e
 have hk1:k1=n.pipes.length:=by obtain ⟨A',c',e,_⟩:=hn1;injection e
 obtain ⟨Ab,cb,rfl,hb1,hb2,hbr⟩:=hb
 rw [hbl] at hb1 hbr
 rw [hbl]
 rw [<- hk0] at hb1 hbr
 rw [<- hk0]
 obtain ⟨Ac,cc,rfl,hc1,hc2,hc3,hcr,hcs⟩:=hc
 rw [hcl, <- hk1] at hc1 hcr
 rw [hcl, <- hk1]
 obtain ⟨asked,hask⟩:∃ a,a=fun k=>bs.getD k false:=⟨_,rfl⟩
 rw [<- hask] at hg |-
 have HASK:=ze hask
 have HG:=ze hg
 have hgk:=hg
 rw [<- hk0, <- hk1] at hgk
 have HGK:=ze hgk
 clear hgk
 have hN6:k0<=6:=by have:=hg.hN;omega
 have hP9:k1<=9:=by have:=hg.hp;omega
 have hlv:=fun k (h:k<n.nodes.length) w' (hB:Below w.heap.size w w')=>zfk vh hl (k:Int) w' (hh.below hB)
 have hlw:=fun k (h:k<n.nodes.length) w' (hB:Below w.heap.size w w')=>zfk vw wll (k:Int) w' (hw.below hB)
 unfold zxw at hlv hlw
 have hlv2:=fun k (h:k<n.nodes.length) w' (hB:Below w.heap.size w w')=>(by have:=hlv k h w' hB;rw [(hfx k h).1,(hfx k h).2] at this;exact this:Calls Tryz.prog 47 #[vh,.int .i64 k] w' (fun e w'' =>e= .returned (.tuple #[str (zh (xL fx k)),.bool (fx k).isSome])/\Below w'.heap.size w' w''))
 have hlw2:=fun k (h:k<n.nodes.length) w' (hB:Below w.heap.size w w')=>(by have:=hlw k h w' hB;rw [hwl k h] at this;exact this:Calls Tryz.prog 47 #[vw,.int .i64 k] w' (fun e w'' =>e= .returned (.tuple #[str (zh (wl k)),.bool (wll.find? (fun v=>v.node == (k:Int))).isSome])/\Below w'.heap.size w' w''))
 have HLV:=ze hlv2
 have HLW:=ze hlw2
 clear hlv hlw hlv2 hlw2 hfx hwl hh hw hask hg
 have HN1:=ze hn1
 have HK0:=ze hk0
 have HK1:=ze hk1
 have HEN:=ze he
 have HBR:=ze hbr
 have HCR:=ze hcr
 have HCT:=ze hct
 have HCL:=ze hcl
 have HBL:=ze hbl
 clear hn0 hn1 hn2 hn3 hk0 hk1 he hbr hcr hct hcl hcs hb2 hc2 hbl
 obtain ⟨i0,hi0,hz0,hz1,hz2⟩:=info_parts zba
 have hmk1:=fun w=>zns .i64 k0 (by omega) w
 have hmk2:=fun w=>zw5 .i64 k0 (by omega) w
 have hx0:=Blk.new w 26 #[.slice A0 k0 c0,.slice A1 k1 c1,.slice A2 k2 c2,.slice A3 k3 c3]
 have r0:=hx0.cell 0
 have r1:=hx0.cell 1
 have rL:=hx0.lt
 simp at r0 r1
 go_enter Tryz.func20,Tryz.ntmps20
 go_wp2_with fail
 clear hmk1 hmk2 r0 r1 rL hx0
 have hK:Blk ((((((w.alloc (.cells #[.slice A0 k0 c0,.slice A1 k1 c1,.slice A2 k2 c2,.slice A3 k3 c3] 26)).alloc (.cells (row k0 fun _=>str []).toArray 28)).alloc (.cells #[.slice (some ⟨w.heap.size+1,0,none⟩) k0 k0] 27)).alloc (.cells (row k0 fun _=>.int .i64 0).toArray 3)).alloc (.cells #[.slice (some ⟨w.heap.size+1+1+1,0,none⟩) k0 k0] 29)).alloc (.cells #[.slice none 0 0] 29)) w.heap.size 26 #[.slice A0 k0 c0,.slice A1 k1 c1,.slice A2 k2 c2,.slice A3 k3 c3]:=(((((Blk.new w _ _).alloc _).alloc _).alloc _).alloc _).alloc _
 have hRO:xE ((((((w.alloc (.cells #[.slice A0 k0 c0,.slice A1 k1 c1,.slice A2 k2 c2,.slice A3 k3 c3] 26)).alloc (.cells (row k0 fun _=>str []).toArray 28)).alloc (.cells #[.slice (some ⟨w.heap.size+1,0,none⟩) k0 k0] 27)).alloc (.cells (row k0 fun _=>.int .i64 0).toArray 3)).alloc (.cells #[.slice (some ⟨w.heap.size+1+1+1,0,none⟩) k0 k0] 29)).alloc (.cells #[.slice none 0 0] 29)) (w.heap.size+1) 28 k0 (zu0 fx 0):=by
  have h:=((((Blk.new (w.alloc (.cells #[.slice A0 k0 c0,.slice A1 k1 c1,.slice A2 k2 c2,.slice A3 k3 c3] 26)) 28 (row k0 fun _=>str []).toArray).alloc (.cells #[.slice (some ⟨w.heap.size+1,0,none⟩) k0 k0] 27)).alloc (.cells (row k0 fun _=>.int .i64 0).toArray 3)).alloc (.cells #[.slice (some ⟨w.heap.size+1+1+1,0,none⟩) k0 k0] 29)).alloc (.cells #[.slice none 0 0] 29)
  simp only [World.size_alloc] at h
  exact xE.congr (f:=fun _=>str []) h (fun k _=>by unfold zu0;rw [if_neg (by omega)])
 have hBO:Blk ((((((w.alloc (.cells #[.slice A0 k0 c0,.slice A1 k1 c1,.slice A2 k2 c2,.slice A3 k3 c3] 26)).alloc (.cells (row k0 fun _=>str []).toArray 28)).alloc (.cells #[.slice (some ⟨w.heap.size+1,0,none⟩) k0 k0] 27)).alloc (.cells (row k0 fun _=>.int .i64 0).toArray 3)).alloc (.cells #[.slice (some ⟨w.heap.size+1+1+1,0,none⟩) k0 k0] 29)).alloc (.cells #[.slice none 0 0] 29)) (w.heap.size+1+1) 27 #[.slice (some ⟨w.heap.size+1,0,none⟩) k0 k0]:=by
  have h:=(((Blk.new ((w.alloc (.cells #[.slice A0 k0 c0,.slice A1 k1 c1,.slice A2 k2 c2,.slice A3 k3 c3] 26)).alloc (.cells (row k0 fun _=>str []).toArray 28)) 27 #[.slice (some ⟨w.heap.size+1,0,none⟩) k0 k0]).alloc (.cells (row k0 fun _=>.int .i64 0).toArray 3)).alloc (.cells #[.slice (some ⟨w.heap.size+1+1+1,0,none⟩) k0 k0] 29)).alloc (.cells #[.slice none 0 0] 29)
  simp only [World.size_alloc] at h
  exact h
 have hRA:xE ((((((w.alloc (.cells #[.slice A0 k0 c0,.slice A1 k1 c1,.slice A2 k2 c2,.slice A3 k3 c3] 26)).alloc (.cells (row k0 fun _=>str []).toArray 28)).alloc (.cells #[.slice (some ⟨w.heap.size+1,0,none⟩) k0 k0] 27)).alloc (.cells (row k0 fun _=>.int .i64 0).toArray 3)).alloc (.cells #[.slice (some ⟨w.heap.size+1+1+1,0,none⟩) k0 k0] 29)).alloc (.cells #[.slice none 0 0] 29)) (w.heap.size+1+1+1) 3 k0 (atF fx asked 0):=by
  have h:=((Blk.new (((w.alloc (.cells #[.slice A0 k0 c0,.slice A1 k1 c1,.slice A2 k2 c2,.slice A3 k3 c3] 26)).alloc (.cells (row k0 fun _=>str []).toArray 28)).alloc (.cells #[.slice (some ⟨w.heap.size+1,0,none⟩) k0 k0] 27)) 3 (row k0 fun _=>.int .i64 0).toArray).alloc (.cells #[.slice (some ⟨w.heap.size+1+1+1,0,none⟩) k0 k0] 29)).alloc (.cells #[.slice none 0 0] 29)
  simp only [World.size_alloc] at h
  exact xE.congr (f:=fun _=>.int .i64 0) h (fun k _=>by unfold atF;rw [if_neg (by omega)])
 have hBA:Blk ((((((w.alloc (.cells #[.slice A0 k0 c0,.slice A1 k1 c1,.slice A2 k2 c2,.slice A3 k3 c3] 26)).alloc (.cells (row k0 fun _=>str []).toArray 28)).alloc (.cells #[.slice (some ⟨w.heap.size+1,0,none⟩) k0 k0] 27)).alloc (.cells (row k0 fun _=>.int .i64 0).toArray 3)).alloc (.cells #[.slice (some ⟨w.heap.size+1+1+1,0,none⟩) k0 k0] 29)).alloc (.cells #[.slice none 0 0] 29)) (w.heap.size+1+1+1+1) 29 #[.slice (some ⟨w.heap.size+1+1+1,0,none⟩) k0 k0]:=by
  have h:=(Blk.new ((((w.alloc (.cells #[.slice A0 k0 c0,.slice A1 k1 c1,.slice A2 k2 c2,.slice A3 k3 c3] 26)).alloc (.cells (row k0 fun _=>str []).toArray 28)).alloc (.cells #[.slice (some ⟨w.heap.size+1,0,none⟩) k0 k0] 27)).alloc (.cells (row k0 fun _=>.int .i64 0).toArray 3)) 29 #[.slice (some ⟨w.heap.size+1+1+1,0,none⟩) k0 k0]).alloc (.cells #[.slice none 0 0] 29)
  simp only [World.size_alloc] at h
  exact h
 have hBF:Blk ((((((w.alloc (.cells #[.slice A0 k0 c0,.slice A1 k1 c1,.slice A2 k2 c2,.slice A3 k3 c3] 26)).alloc (.cells (row k0 fun _=>str []).toArray 28)).alloc (.cells #[.slice (some ⟨w.heap.size+1,0,none⟩) k0 k0] 27)).alloc (.cells (row k0 fun _=>.int .i64 0).toArray 3)).alloc (.cells #[.slice (some ⟨w.heap.size+1+1+1,0,none⟩) k0 k0] 29)).alloc (.cells #[.slice none 0 0] 29)) (w.heap.size+1+1+1+1+1) 29 #[.slice none 0 0]:=by
  have h:=Blk.new (((((w.alloc (.cells #[.slice A0 k0 c0,.slice A1 k1 c1,.slice A2 k2 c2,.slice A3 k3 c3] 26)).alloc (.cells (row k0 fun _=>str []).toArray 28)).alloc (.cells #[.slice (some ⟨w.heap.size+1,0,none⟩) k0 k0] 27)).alloc (.cells (row k0 fun _=>.int .i64 0).toArray 3)).alloc (.cells #[.slice (some ⟨w.heap.size+1+1+1,0,none⟩) k0 k0] 29)) 29 #[.slice none 0 0]
  simp only [World.size_alloc] at h
  exact h
 have hW:Below w.heap.size w ((((((w.alloc (.cells #[.slice A0 k0 c0,.slice A1 k1 c1,.slice A2 k2 c2,.slice A3 k3 c3] 26)).alloc (.cells (row k0 fun _=>str []).toArray 28)).alloc (.cells #[.slice (some ⟨w.heap.size+1,0,none⟩) k0 k0] 27)).alloc (.cells (row k0 fun _=>.int .i64 0).toArray 3)).alloc (.cells #[.slice (some ⟨w.heap.size+1+1+1,0,none⟩) k0 k0] 29)).alloc (.cells #[.slice none 0 0] 29)):=ext (ext (ext (ext (ext (zg w _) (zg _ _)) (zg _ _)) (zg _ _)) (zg _ _)) (zg _ _)
 have HK:=ze hK
 have HRO:=ze hRO
 have HBO:=ze hBO
 have HRA:=ze hRA
 have HBA:=ze hBA
 have HBF:=ze hBF
 have HW:=ze hW
 clear hK hRO hBO hRA hBA hBF hW
 generalize ((((((w.alloc (.cells #[.slice A0 k0 c0,.slice A1 k1 c1,.slice A2 k2 c2,.slice A3 k3 c3] 26)).alloc (.cells (row k0 fun _=>str []).toArray 28)).alloc (.cells #[.slice (some ⟨w.heap.size+1,0,none⟩) k0 k0] 27)).alloc (.cells (row k0 fun _=>.int .i64 0).toArray 3)).alloc (.cells #[.slice (some ⟨w.heap.size+1+1+1,0,none⟩) k0 k0] 29)).alloc (.cells #[.slice none 0 0] 29))=WS at HK HRO HBO HRA HBA HBF HW |-
 have HB:Hid (w.heap.size<w.heap.size+1/\w.heap.size+1<w.heap.size+1+1/\w.heap.size+1+1<w.heap.size+1+1+1/\w.heap.size+1+1+1<w.heap.size+1+1+1+1/\w.heap.size+1+1+1+1<w.heap.size+1+1+1+1+1):=⟨by omega,by omega,by omega,by omega,by omega⟩
 generalize w.heap.size+1+1+1+1+1=bF at HB HBF |-
 generalize w.heap.size+1+1+1+1=bA at HB HBA |-
 generalize w.heap.size+1+1+1=gA at HB HRA HBA |-
 generalize w.heap.size+1+1=bO at HB HBO |-
 generalize w.heap.size+1=gO at HB HRO HBO |-
 have HR0:Hid (WS.ownsRow (bF+1) 3 1 (.slice none 0 0) (yS (zt fx asked) 0) (VD (Xn fx asked 0))):=ze (World.ownsRow_nil _ _ _ _)
 go_loopw [37] (HeaM k0 fx asked gO bO gA bA bF w #[.slice A0 k0 c0,.slice A1 k1 c1,.slice A2 k2 c2,.slice A3 k3 c3]) (fun iv _=>k0 - (intOf iv).toNat)
 case atStart=>exact ⟨0,_,Nat.zero_le _,rfl,HK,HRO,HBO,HRA,HBA,HBF,HR0,HW⟩
 case round=>
  clear HK HRO HBO HRA HBA HBF HR0 HW
  obtain ⟨k,fv,hk,rfl,HK,HRO,HBO,HRA,HBA,HBF,HFO,HW⟩:=hrel
  by_cases hlt:k<k0
  . have hkN:k<n.nodes.length:=by have:=HK0.out;omega
    have hki:(k:Int)<(k0:Int):=by omega
    have hl:=HLV.out k hkN;obtain ⟨x,hx⟩:∃ x,x=zh (xL fx k):=⟨_,rfl⟩;obtain ⟨b,hbq⟩:∃ b,b=(fx k).isSome:=⟨_,rfl⟩;rw [<- hx, <- hbq] at hl;have HX:=ze hx;have HBQ:=ze hbq;clear hx hbq;obtain ⟨r0,r1,r2,r3,rL⟩:=yG HK.out;obtain ⟨o0,oL⟩:=zcu HBO.out;obtain ⟨a0,aL⟩:=zcu HBA.out;obtain ⟨f0,fL⟩:=zcu HBF.out;go_wp2_with fail;refine (hl _ HW.out).mono ?_;rintro e WN ⟨rfl,hbB⟩
    try clear r0 r1 r2 r3 rL o0 oL a0 aL f0 fL
    replace HK:=kb_ HK hbB;replace HBO:=kb_ HBO hbB;replace HBA:=kb_ HBA hbB;replace HBF:=kb_ HBF hbB;replace HRO:=ze (HRO.out.below hbB);replace HRA:=ze (HRA.out.below hbB);replace HFO:=ze (ZF HFO.out hbB);replace HW:=eb_ HW hbB;clear hbB;obtain ⟨r0,r1,r2,r3,rL⟩:=yG HK.out;obtain ⟨o0,oL⟩:=zcu HBO.out;obtain ⟨a0,aL⟩:=zcu HBA.out;obtain ⟨f0,fL⟩:=zcu HBF.out;clear hl;have co:=HRO.out.cell hlt;have ca:=HRA.out.cell hlt;have fo:=HRO.out.frozen k;have fa:=HRA.out.frozen k;have lo:=HRO.out.lt;have la:=HRA.out.lt;have d1:¬ gO=bA:=by have:=HB.out;omega
    have d2:¬ gO=gA:=by have:=HB.out;omega
    go_wp2_with fail
    go_region
    have hRO2:=(HRO.out.set_ (k:=k) (v:=str x) (f' :=zu0 fx (k+1)) (by unfold zu0;rw [if_pos (by omega),HX.out]) (fun j _ hj=>by unfold zu0;congr 1;by_cases h:j<k;rw [if_pos h,if_pos (by omega)];rw [if_neg h,if_neg (by omega)])).far (p:=⟨gA,k,none⟩) (show gO≠gA by omega) (.int .i64 (-1));have hRA2:=(HRA.out.far (p:=⟨gO,k,none⟩) (show gA≠gO by omega) (str x)).set_ (k:=k) (v:=.int .i64 (-1)) (f' :=fun j=>if j=k then .int .i64 (-1) else atF fx asked k j) (if_pos rfl) (fun j _ hj=>if_neg hj);have hK2:=(HK.out.far (p:=⟨gO,k,none⟩) (show w.heap.size≠gO by have:=HB.out;omega) (str x)).far (p:=⟨gA,k,none⟩) (show w.heap.size≠gA by have:=HB.out;omega) (.int .i64 (-1));have hBO2:=(HBO.out.far (p:=⟨gO,k,none⟩) (show bO≠gO by have:=HB.out;omega) (str x)).far (p:=⟨gA,k,none⟩) (show bO≠gA by have:=HB.out;omega) (.int .i64 (-1));have hBA2:=(HBA.out.far (p:=⟨gO,k,none⟩) (show bA≠gO by have:=HB.out;omega) (str x)).far (p:=⟨gA,k,none⟩) (show bA≠gA by have:=HB.out;omega) (.int .i64 (-1))
    have hBF2:=(HBF.out.far (p:=⟨gO,k,none⟩) (show bF≠gO by have:=HB.out;omega) (str x)).far (p:=⟨gA,k,none⟩) (show bF≠gA by have:=HB.out;omega) (.int .i64 (-1));have hFO2:=zcj (zcj HFO.out (p:=⟨gO,k,none⟩) (show gO<bF+1 by have:=HB.out;omega) (str x)) (p:=⟨gA,k,none⟩) (show gA<bF+1 by have:=HB.out;omega) (.int .i64 (-1));have hW2:=(HW.out.setCell (p:=⟨gO,k,none⟩) (show w.heap.size<=gO by have:=HB.out;omega) (str x)).setCell (p:=⟨gA,k,none⟩) (show w.heap.size<=gA by have:=HB.out;omega) (.int .i64 (-1));clear co ca fo fa lo la r0 r1 r2 r3 rL o0 oL a0 aL f0 fL HK HRO HBO HRA HBA HBF HFO HW;have HRO:=ze hRO2;have HRA:=ze hRA2;have HK:=ze hK2;have HBO:=ze hBO2;have HBA:=ze hBA2;have HBF:=ze hBF2;have HFO:=ze hFO2;have HW:=ze hW2;clear hRO2 hRA2 hK2 hBO2 hBA2 hBF2 hFO2 hW2;generalize ((WN.setCell ⟨gO,k,none⟩ (str x)).setCell ⟨gA,k,none⟩ (.int .i64 (-1)))=WA at HK HRO HBO HRA HBA HBF HFO HW |-;have hdr:Below WA.heap.size WA WA.drew:=zw WA 1;replace HK:=kb_ HK hdr;replace HBO:=kb_ HBO hdr;replace HBA:=kb_ HBA hdr;replace HBF:=kb_ HBF hdr
    replace HRO:=ze (HRO.out.below hdr);replace HRA:=ze (HRA.out.below hdr);replace HFO:=ze (ZF HFO.out hdr);replace HW:=eb_ HW hdr;generalize WA.drew=WB at hdr HK HRO HBO HRA HBA HBF HFO HW |-;clear hdr;obtain ⟨r0,r1,r2,r3,rL⟩:=yG HK.out;obtain ⟨o0,oL⟩:=zcu HBO.out;obtain ⟨a0,aL⟩:=zcu HBA.out;obtain ⟨f0,fL⟩:=zcu HBF.out
    cases b with
    | true=>
      have HNF:Hid (zt fx asked k=false):=ze (zoe (fun h=>by rw [<- HBQ.out] at h;cases h.1))
      have HRA2:Hid (xE WB gA 3 k0 (atF fx asked (k+1))):=ze (HRA.out.congr (fun j _=>by
       unfold atF
       by_cases h:j=k
       . rw [if_pos h,if_pos (by omega),h,zsm HNF.out];rfl
       rw [if_neg h];congr 1
       by_cases h2:j<k
       . rw [if_pos h2,if_pos (by omega)]
       rw [if_neg h2,if_neg (by omega)]))
      have HFO2:Hid (WB.ownsRow (bF+1) 3 1 fv (yS (zt fx asked) (k+1)) (VD (Xn fx asked (k+1)))):=ze (by
       have h:=HFO.out;rw [Xw,HNF.out];unfold Xn;rw [Y2,HNF.out]
       simpa [Xn] using h)
      go_wp2_with fail;go_round
      case rel=>exact ⟨k+1,fv,by omega,by go_num,HK,HRO,HBO,HRA2,HBA,HBF,HFO2,HW⟩
      case measure=>simp [intOf];omega
    | false=>
      have hkb:k<bs.length:=by have:=HBL.out;omega
      obtain ⟨ad,e1,hbb,q0⟩:∃ ad,Ab=some ad/\ad.block<WB.heap.size/\WB.cell? (ad.add k)=some (.bool bs[k]):=by
       obtain ⟨ad,e1,hb,hc⟩:=(HBR.out.below HW.out).2 (by omega);exact ⟨ad,e1,Nat.lt_of_lt_of_le hb HW.out.size,hc k _ (by simp [xU,hkb])⟩
      subst e1;have hak:asked k=bs[k]:=by rw [HASK.out];simp [List.getD,List.getElem?_eq_getElem hkb]
      have HAK:=ze hak;clear hak hbb
      cases hbk:bs[k] with
      | false=>
        rw [hbk] at q0;have HNF:Hid (zt fx asked k=false):=ze (zoe (fun h=>by rw [HAK.out,hbk] at h;cases h.2))
        have HRA2:Hid (xE WB gA 3 k0 (atF fx asked (k+1))):=ze (HRA.out.congr (fun j _=>by
         unfold atF
         by_cases h:j=k
         . rw [if_pos h,if_pos (by omega),h,zsm HNF.out];rfl
         rw [if_neg h];congr 1
         by_cases h2:j<k
         . rw [if_pos h2,if_pos (by omega)]
         rw [if_neg h2,if_neg (by omega)]))
        have HFO2:Hid (WB.ownsRow (bF+1) 3 1 fv (yS (zt fx asked) (k+1)) (VD (Xn fx asked (k+1)))):=ze (by
         have h:=HFO.out;rw [Xw,HNF.out];unfold Xn;rw [Y2,HNF.out]
         simpa [Xn] using h)
        clear hbk;go_wp2_with fail;go_round
        case rel=>exact ⟨k+1,fv,by omega,by go_num,HK,HRO,HBO,HRA2,HBA,HBF,HFO2,HW⟩
        case measure=>simp [intOf];omega
      | true=>
        rw [hbk] at q0;have HYF:Hid (zt fx asked k=true):=ze (zw7 HBQ.out.symm (by rw [HAK.out,hbk]));clear hbk;obtain ⟨m,hm⟩:∃ m,m=yS (zt fx asked) k:=⟨_,rfl⟩;rw [<- hm] at HFO;have HM:=ze hm;have hm6:m<=k:=by rw [hm];exact rank_le _ _
        clear hm;obtain ⟨Af,cf,hfv⟩:=zbm HFO.out;subst hfv;have ca:=HRA.out.cell hlt;have fa:=HRA.out.frozen k;have la:=HRA.out.lt;have ff:=HBF.out.frozen 0;have d3:¬ gA=bF:=by have:=HB.out;omega
        have d4:¬ gA=bA:=by have:=HB.out;omega
        have hne:w.heap.size≠gA/\w.heap.size≠bF/\bO≠gA/\bO≠bF/\bA≠gA/\bA≠bF/\bF≠gA/\gO≠gA/\gO≠bF/\gA≠bF/\gA<bF+1/\w.heap.size<=gA/\w.heap.size<=bF:=by have:=HB.out;omega
        have HNE:=ze hne
        have HRA1:Hid (xE (WB.setCell ⟨gA,k,none⟩ (.int .i64 (m:Int))) gA 3 k0 (atF fx asked (k+1))):=ze (HRA.out.set_ (by unfold atF;rw [if_pos (by omega),zw9 HYF.out, <- HM.out];rfl) (fun j _ hj=>by
         rw [if_neg hj];unfold atF
         congr 1
         by_cases h2:j<k
         . rw [if_pos h2,if_pos (by omega)]
         rw [if_neg h2,if_neg (by omega)]))
        have HK1:=ze (HK.out.far (p:=⟨gA,k,none⟩) hne.1 (.int .i64 (m:Int)));have HBO1:=ze (HBO.out.far (p:=⟨gA,k,none⟩) hne.2.2.1 (.int .i64 (m:Int)));have HBA1:=ze (HBA.out.far (p:=⟨gA,k,none⟩) hne.2.2.2.2.1 (.int .i64 (m:Int)));have HBF1:=ze (HBF.out.far (p:=⟨gA,k,none⟩) hne.2.2.2.2.2.2.1 (.int .i64 (m:Int)));have HRO1:=ze (HRO.out.far (p:=⟨gA,k,none⟩) hne.2.2.2.2.2.2.2.1 (.int .i64 (m:Int)));have HFO1:=ze (zcj HFO.out (p:=⟨gA,k,none⟩) hne.2.2.2.2.2.2.2.2.2.2.1 (.int .i64 (m:Int)));have HW1:=ze (HW.out.setCell (p:=⟨gA,k,none⟩) hne.2.2.2.2.2.2.2.2.2.2.2.1 (.int .i64 (m:Int)));have hlo:bF<(WB.setCell ⟨gA,k,none⟩ (.int .i64 (m:Int))).heap.size:=HBF1.out.lt;clear hne
        have h1c:∀ u∈[Value.int .i64 (k:Int)],u.oneCell' =true:=by
         intro u hu;rw [List.mem_singleton] at hu;subst hu;rfl
        have hrd:=xM (WB.setCell ⟨gA,k,none⟩ (.int .i64 (m:Int))) 3 (.int .i64 (k:Int));have hsz:(WB.setCell ⟨gA,k,none⟩ (.int .i64 (m:Int))).heap.size=WB.heap.size:=by simp
        rw [hsz] at hrd hlo;go_wp2_with (at_builtin;refine zO _ rfl (.tmp 66) (.tmp 68) _ rfl (bF+1) 3 i0 _ 1 8 Tryz.underlying29 hi0 hz0 hz1 hz2 rfl (by omega) _ m _ rfl (HFO1.out.alloc _) _ (some ⟨WB.heap.size,0,none⟩) 1 1 _ rfl hrd h1c ?o2 ?o3 ?o4 ?_)
        case o2=>unfold maxLen;omega
        case o3=>omega
        case o4=>omega
        intro v3 w3 hown3 hgr3 hat3;have hge:=zq2 HFO1.out;have hx:=zg (WB.setCell ⟨gA,k,none⟩ (.int .i64 (m:Int))) (.cells #[.int .i64 (k:Int)] 3);have HK3:=ze ((HK1.out.below hx HK1.out.lt).grown hgr3 (fun e=>by have:=hge _ e.symm;have:=HB.out;omega));have HBO3:=ze ((HBO1.out.below hx HBO1.out.lt).grown hgr3 (fun e=>by have:=hge _ e.symm;have:=HB.out;omega));have HBA3:=ze ((HBA1.out.below hx HBA1.out.lt).grown hgr3 (fun e=>by have:=hge _ e.symm;have:=HB.out;omega));have HBF3:=ze ((HBF1.out.below hx HBF1.out.lt).grown hgr3 (fun e=>by have:=hge _ e.symm;have:=HB.out;omega));have HRO3:=ze ((HRO1.out.below hx).grown hgr3 (fun e=>by have:=hge _ e.symm;have:=HB.out;omega));have HRA3:=ze ((HRA1.out.below hx).grown hgr3 (fun e=>by have:=hge _ e.symm;have:=HB.out;omega));have HW3:=ze ((ext HW1.out hx).grown hgr3 (by have:=HW1.out.size;simp only [World.size_alloc];omega) (fun k hk=>by have:=hge k hk;have:=HB.out;omega))
        have HFO3:Hid (w3.ownsRow (bF+1) 3 1 v3 (yS (zt fx asked) (k+1)) (VD (Xn fx asked (k+1)))):=ze (by
         rw [Xw,if_pos HYF.out, <- HM.out];unfold Xn;rw [Y2,if_pos HYF.out];unfold VD at hown3 |-;rw [List.map_append,List.map_append]
         exact hown3)
        clear HK1 HBO1 HBA1 HBF1 HRO1 HRA1 HFO1 HW1 HK HBO HBA HBF HRO HRA HFO HW hown3 hgr3 hat3 hge hx hrd h1c ca fa la ff f0 fL a0 aL o0 oL r0 r1 r2 r3 rL q0;obtain ⟨A9,c9,hv3⟩:=zbm HFO3.out;subst hv3;have ff:=HBF3.out.frozen 0;have fl:=HBF3.out.lt;have f0:=HBF3.out.cell 0;simp at f0;go_wp2_with fail;go_round
        case rel=>exact ⟨k+1,_,by omega,by go_num,HK3.out.far HNE.out.2.1 _,HRO3.out.far HNE.out.2.2.2.2.2.2.2.2.1 _,HBO3.out.far HNE.out.2.2.2.1 _,HRA3.out.far HNE.out.2.2.2.2.2.2.2.2.2.1 _,HBA3.out.far HNE.out.2.2.2.2.2.1 _,HBF3.out.set_ 0 _,zcj HFO3.out (Nat.lt_succ_self _) _,HW3.out.setCell HNE.out.2.2.2.2.2.2.2.2.2.2.2.2 _⟩
        case measure=>simp [intOf];omega
  obtain rfl:k0=k:=by omega
  clear hlt hk;obtain ⟨m,hm⟩:∃ m,m=yS (zt fx asked) k0:=⟨_,rfl⟩;rw [<- hm] at HFO;have HM:=ze hm;have hm6:m<=6:=by have:=rank_le (zt fx asked) k0;omega
  clear hm;obtain ⟨Af,cf,hfv⟩:=zbm HFO.out;subst hfv
  have hmc:m<=cf:=by
   rcases HFO.out.2 with ⟨h0,h1⟩ | ⟨g,cap,cur,hv,hg,hh,r⟩
   . injection h0 with _ _ h3;omega
   . injection hv with _ _ h3;have:=r.1;omega
  have hmk3:=fun w=>zt2 .i64 m (by omega) w
  obtain ⟨r0,r1,r2,r3,rL⟩:=yG HK.out;obtain ⟨o0,oL⟩:=zcu HBO.out;obtain ⟨a0,aL⟩:=zcu HBA.out;obtain ⟨f0,fL⟩:=zcu HBF.out;go_wp2_with fail;clear hmk3;have hR:yI ((wr.alloc (.cells (vE m (fun _ _=>[])).toArray 79)).alloc (.cells #[.slice (some ⟨wr.heap.size,0,none⟩) m m] 78)) wr.heap.size m (fun _ _=>[]):=(Blk.new wr _ _).alloc _
  have hBR:Blk ((wr.alloc (.cells (vE m (fun _ _=>[])).toArray 79)).alloc (.cells #[.slice (some ⟨wr.heap.size,0,none⟩) m m] 78)) (wr.heap.size+1) 78 #[.slice (some ⟨wr.heap.size,0,none⟩) m m]:=by
   have h:=Blk.new (wr.alloc (.cells (vE m (fun _ _=>[])).toArray 79)) 78 #[.slice (some ⟨wr.heap.size,0,none⟩) m m];simp only [World.size_alloc] at h;exact h
  have hWF:Below wr.heap.size wr ((wr.alloc (.cells (vE m (fun _ _=>[])).toArray 79)).alloc (.cells #[.slice (some ⟨wr.heap.size,0,none⟩) m m] 78)):=ext (zg _ _) (zg _ _);clear r0 r1 r2 r3 rL o0 oL a0 aL f0 fL;have HR:=ze hR;have HBR:=ze hBR;have HWR:=ze hWF;clear hR hBR hWF;have hfr:=zK.of_own HFO.out;have HFR:=ze hfr;clear hfr;generalize (wr.alloc (.cells (vE m (fun _ _=>[])).toArray 79)).alloc (.cells #[.slice (some ⟨wr.heap.size,0,none⟩) m m] 78)=WS2 at HR HBR HWR |-;generalize wr=WF at*;obtain ⟨vw_,hvw⟩:∃ v,v=fun i=>zh (-(wl ((xZ (zt fx asked) k0).getD i 0))):=⟨_,rfl⟩
  have HV:=ze hvw;clear hvw
  go_loopw [76] (HeaR m vw_ WF) (fun iv _=>m - (intOf iv).toNat)
  case atStart=>exact ⟨0,Nat.zero_le _,rfl,HR.out.congr (fun i c _ _=>by unfold zeq;rw [if_neg (by omega)]),HBR,HWR⟩
  case round=>
   clear HR HBR HWR;obtain ⟨i,hi,rfl,HR,HBR,HWR⟩:=hrel
   by_cases hil:i<m
   . have hii:(i:Int)<(m:Int):=by omega
     obtain ⟨kf,hkf⟩:∃ kf,kf=(xZ (zt fx asked) k0).getD i 0:=⟨_,rfl⟩
     obtain ⟨ad,e1,hbb,q0⟩:∃ ad,Af=some ad/\ad.block<WF.heap.size/\wr.cell? (ad.add i)=some (.int .i64 (kf:Int)):=by
      obtain ⟨ad,e1,hb,hc⟩:=(HFR.out.below HWR.out).2 (by omega);exact ⟨ad,e1,hb,hc i _ (by rw [zg2 (by rw [<- HM.out];exact hil),hkf])⟩
     subst e1;have HKF:=ze hkf;clear hkf;go_wp2_with fail
     go_loopw [81] (HeaC m vw_ i WF) (fun cv _=>25 - (intOf cv).toNat)
     case atStart=>exact ⟨0,Nat.zero_le _,rfl,by rw [zp5];exact HR,HBR,HWR⟩
     case round=>
      clear HR HBR HWR q0;obtain ⟨k,hk,rfl,HR,HBR,HWR⟩:=hrel
      by_cases hkl:k<25
      . have hki:(k:Int)<25:=by omega
        have hk0' :(0:Int)<=(k:Int):=by omega
        have b0:=HBR.out.cell 0;simp at b0;have ck:=HR.out.cell hil hkl;have fk:=HR.out.frozen (i*25+k);have lk:=HR.out.lt;have HR2:=ze (HR.out.set_ (i:=i) hkl [48]);rw [zrg] at HR2;go_wp2_with fail;go_round
        case rel=>exact ⟨k+1,by omega,by go_num,HR2,HBR.out.far (by simp) _,HWR.out.setCell (Nat.le_refl _) _⟩
        case measure=>simp [intOf];omega
      obtain rfl:k=25:=by omega
      have b0:=HBR.out.cell 0;have hbf:=HBF.out.below HWR.out HBF.out.lt;have f0:=hbf.cell 0;simp at b0 f0;have fL:=hbf.lt;clear hbf;have hm25:(m:Int)<25:=by omega
      have hm0:(0:Int)<=(m:Int):=by omega
      have ck:=HR.out.cell hil (show m<25 by omega);have fk:=HR.out.frozen (i*25+m);have lk:=HR.out.lt;go_wp2_with fail;have hkfN:kf<n.nodes.length:=by rw [HKF.out, <- HK0.out];exact (Z2 _ (by rw [<- HM.out];exact hil)).1
      have hcall:=fun t:zd9 wr=>HLW.out kf hkfN _ (ext (ext HW.out HWR.out) t.below)
      have hsx:=HG.out.wd kf hkfN;have hmin:=zpy (Dz.short hsx (show 12<50000 by omega));have HSX:=ze (yp (Dz.short hsx (show 12<50000 by omega)));rw [show -(wl kf)= -(wl ((xZ (zt fx asked) k0).getD i 0)) by rw [HKF.out]] at hmin;have hvi:vw_ i=zh (-(wl ((xZ (zt fx asked) k0).getD i 0))):=by rw [HV.out]
      rw [<- hvi] at hmin;have HMIN:=ze hmin;clear hsx hmin hvi;obtain ⟨x,hx⟩:∃ x,x=zh (wl kf):=⟨_,rfl⟩;rw [<- hx] at hcall HSX HMIN;clear hx;have bL:=HBR.out.lt;have b0g:=zF bL b0;have f0g:=zF fL f0;refine Vk 9 11 11 (by kernel_rfl) rfl rfl rfl (by kernel_rfl) (by kernel_rfl) ?_ ?_ ?_
      . intro _ _ _ _ _ h9;exact h9
      . intro _ _ _ _ h9;exact h9
      simp only [zfz,zxx,List.take_succ_cons,List.take_zero,List.drop_succ_cons,List.drop_zero]
      repeat (quiet_step (first | (go_at_call 47;exact zR (hcall _))))
      refine wpQuiet_nil ?_;rintro w9 ⟨t9,rfl⟩;clear b0g f0g;have hbB:=yq wr t9
      try clear b0 bL
      replace HBR:=kb_ HBR hbB;replace HR:=ze (HR.out.below hbB);replace HWR:=eb_ HWR hbB;generalize grown wr t9=WN at hbB HBR HR HWR |-;clear t9;obtain ⟨b0,bL⟩:=zcu HBR.out;clear b0 f0 fL ck fk lk hcall hbB;have ck:=HR.out.cell hil (show m<25 by omega);have fk:=HR.out.frozen (i*25+m);have lk:=HR.out.lt;have HR2:=ze (HR.out.set_ (i:=i) (show m<25 by omega) x);have HBR2:=ze (HBR.out.far (p:=⟨WF.heap.size,i*25+m,none⟩) (show WF.heap.size+1≠WF.heap.size by omega) (str x));have HWR2:=ze (HWR.out.setCell (p:=⟨WF.heap.size,i*25+m,none⟩) (Nat.le_refl _) (str x));have b0:=HBR2.out.cell 0;have bL:=HBR2.out.lt;have hbf:=HBF.out.below HWR2.out HBF.out.lt;have f0:=hbf.cell 0;have fL:=hbf.lt;have c2:=HR2.out.cell hil (show m<25 by omega);have l2:=HR2.out.lt;rw [zm8] at c2;simp only [List.getElem?_toArray,List.getElem?_cons_zero] at b0 f0;clear hbf HR HBR HWR;go_wp2_with fail;generalize WN.setCell ⟨WF.heap.size,i*25+m,none⟩ (.string ⟨x.toArray⟩)=W2 at HR2 HBR2 HWR2 b0 bL f0 fL c2 l2 |-;clear ck fk lk;have hcm:=fun w' =>VE [48] x w' (by unfold zV;simp) HSX.out
      rw [HMIN.out] at hcm;have b0g:=zF bL b0;have f0g:=zF fL f0;have c2g:=zF l2 c2;refine yu 13 (by kernel_rfl) (by kernel_rfl) ?_;simp only [List.take_succ_cons,List.take_zero,List.drop_succ_cons,List.drop_zero]
      repeat (quiet_step (first | (go_at_call 24;exact zR (hcm _))))
      refine wpQuiet_nil ?_;rintro w9 ⟨t9,rfl⟩;clear b0g f0g c2g;have hbB:=yq W2 t9
      try clear b0 bL
      replace HBR2:=kb_ HBR2 hbB;replace HR2:=ze (HR2.out.below hbB);replace HWR2:=eb_ HWR2 hbB;generalize grown W2 t9=W3 at hbB HBR2 HR2 HWR2 |-;clear t9;obtain ⟨b0,bL⟩:=zcu HBR2.out;clear c2 f0 fL l2 hcm hbB;have ck:=HR2.out.cell hil (show m<25 by omega);have fk:=HR2.out.frozen (i*25+m);have lk:=HR2.out.lt;have HR3:=ze ((HR2.out.set_ (i:=i) (show m<25 by omega) (vw_ i)).congr (zk3 rfl));have HBR3:=ze (HBR2.out.far (p:=⟨WF.heap.size,i*25+m,none⟩) (show WF.heap.size+1≠WF.heap.size by omega) (str (vw_ i)));have HWR3:=ze (HWR2.out.setCell (p:=⟨WF.heap.size,i*25+m,none⟩) (Nat.le_refl _) (str (vw_ i)));go_wp2_with fail;go_round
      case rel=>exact ⟨i+1,by omega,by go_num,HR3,HBR3,HWR3⟩
      case measure=>simp [intOf];omega
   obtain rfl:m=i:=by omega
   clear hil hi;have lF:=HBF.out.lt;have hA0:WF.cell? ⟨bA,0,none⟩=some (.slice (some ⟨gA,0,none⟩) k0 k0):=HBA.out.cell 0;have hF0:WF.cell? ⟨bF,0,none⟩=some (.slice Af m cf):=HBF.out.cell 0;have hO0:WF.cell? ⟨bO,0,none⟩=some (.slice (some ⟨gO,0,none⟩) k0 k0):=HBO.out.cell 0
   have hput:∀ (W:World) (R:Nat->Nat->List UInt8) (k o:Nat) (d:List UInt8),Below WF.heap.size WF W->yI W WF.heap.size m R->Blk W (WF.heap.size+1) 78 #[.slice (some ⟨WF.heap.size,0,none⟩) m m]->k<k0->o<k0->(∀ i j,zV (R i j))->zV d->
    Calls Tryz.prog 48 #[.int .i64 k,.int .i64 o,str d,.pointer (some ⟨bA,0,none⟩),.pointer (some ⟨WF.heap.size+1,0,none⟩),.pointer (some ⟨bF,0,none⟩),.pointer (some ⟨bO,0,none⟩)] W (zd1 WF.heap.size m (ztf m R (Xo fx asked k) (Xo fx asked o) (zh (xL fx o)) d) W):=by
    intro W R k o d hW hR hB hk ho hs hd;have hB5:=HB.out
    refine zwy k0 m gA WF.heap.size gO bA (WF.heap.size+1) bF bO k o cf Af _ _ d _ R W ((hW.cell (by simp only;omega)).trans hA0) hk ho (by omega) ((hW.cell (by simp only;omega)).trans ?_) ((hW.cell (by simp only;omega)).trans ?_) (hB.cell 0)
     (fun r hr=>by rw [HM.out];exact zye hk hr) (fun r hr=>by rw [HM.out];exact zye ho hr) ((hW.cell lF).trans hF0) ((hW.cell (by simp only;omega)).trans hO0) ((hW.cell (by simp only;omega)).trans ?_) ?_ (by omega) hR hs hd (by omega) (by omega) (by omega) (by omega) (by omega) (by omega)
    . rw [HRA.out.cell hk];unfold atF;rw [if_pos hk]
    . rw [HRA.out.cell ho];unfold atF;rw [if_pos ho]
    . rw [HRO.out.cell ho];unfold zu0;rw [if_pos ho]
    . exact yp (HG.out.short_out (by rw [<- HK0.out];exact ho))
   have HPUT:=ze hput;clear hput hA0 hF0 hO0 lF
   have HR1:Hid (yI wr WF.heap.size m (txt (ZD n.pf n.pt c fx wl asked k0 0))):=ze (HR.out.congr (fun i c hi _=>by
    unfold zeq txt ZD;rw [if_pos hi, <- HM.out,HV.out]
    by_cases h:c=m
    . rw [if_pos h,if_pos h]
    rw [if_neg h,if_neg h];exact (yO.2 rfl).symm))
   have hk1:=HK.out.below HWR.out HK.out.lt;have r1:=hk1.cell 1;simp at r1;clear HR hk1;go_wp2_with fail;clear r1
   go_loopw [121] (HeaP n c fx wl asked k0 m WF) (fun iv _=>k1 - (intOf iv).toNat)
   case atStart=>exact ⟨0,Nat.zero_le _,rfl,HR1,HBR,HWR⟩
   case round=>
    clear HR1 HBR HWR;obtain ⟨i,hi,rfl,HR,HBR,HWR⟩:=hrel
    by_cases hil:i<k1
    . have hin:i<n.pipes.length:=by have:=HK1.out;omega
      obtain ⟨ad,e1,hb,p0,p1,p2,p3,p4⟩:=(HN1.out.below (ext HW.out HWR.out)).at_ hin;subst e1
      obtain ⟨ac,e2,hqc⟩:∃ ac,Ac=some ac/\∀ W,Below WF.heap.size WF W->ac.block<W.heap.size/\W.cell? (ac.add i)=some (str (zh (c i))):=by
       obtain ⟨ac,e1,hb,hc⟩:=HCR.out.2 (by omega);have hic:i<cs.length:=by have:=HCL.out;omega
       refine ⟨ac,e1,fun W hW=>?_⟩;have hb2:=Nat.lt_of_lt_of_le hb (ext HW.out hW).size;exact ⟨hb2,((ext HW.out hW).cell (by rw [zy];exact hb)).trans (hc i _ (by rw [<- HCT.out i hic];simp [hic]))⟩
      subst e2;have HQC:=ze hqc;clear hqc;obtain ⟨q1,q2,q3,q4⟩:=HEN.out i hin;rw [q1] at p1;rw [q3] at p2;have hf0:n.pf i<k0:=by have:=HK0.out;omega
      have ht0:n.pt i<k0:=by have:=HK0.out;omega
      have hii:(i:Int)<(k1:Int):=by omega
      clear q1 q2 q3 q4;go_wp2_with fail;have hx:=zg wr (.cells #[str n.pipes[i].name,.int .i64 (n.pf i:Int),.int .i64 (n.pt i:Int),str n.pipes[i].low,str n.pipes[i].high] 41);have HP:=ze (Blk.new wr 41 #[str n.pipes[i].name,.int .i64 (n.pf i:Int),.int .i64 (n.pt i:Int),str n.pipes[i].low,str n.pipes[i].high]);have HC:=ze (HR.out.congr (R' :=zdd m (txt (ZD n.pf n.pt c fx wl asked k0 i))) (fun i' j h _=>(zhn h).symm));have hqr:wr.heap.size≠WF.heap.size:=by have:=HR.out.lt;omega
      clear HR p0 p1 p2 p3 p4 hb;replace HBR:=kb_ HBR hx;replace HC:=ze (HC.out.below hx);replace HWR:=eb_ HWR hx;generalize wr.alloc (.cells #[str n.pipes[i].name,.int .i64 (n.pf i:Int),.int .i64 (n.pt i:Int),str n.pipes[i].low,str n.pipes[i].high] 41)=WP at HP HC HBR HWR |-;generalize wr.heap.size=q at HP hqr |-;clear hx;have c1:=HP.out.cell 1;have c2:=HP.out.cell 2;have cL:=HP.out.lt;simp only [List.getElem?_toArray,List.getElem?_cons_succ,List.getElem?_cons_zero] at c1 c2;obtain ⟨lc,qc⟩:=HQC.out WP HWR.out;have c1g:=zF cL c1;have c2g:=zF cL c2;have qcg:=vW lc qc;refine yu 9 (by kernel_rfl) (by kernel_rfl) ?_;simp only [List.take_succ_cons,List.take_zero,List.drop_succ_cons,List.drop_zero]
      repeat (quiet_step (fail))
      refine wpQuiet_nil ?_;rintro w9 ⟨t9,rfl⟩;clear c1g c2g qcg;have hbB:=yq WP t9
      try clear b0 bL cL
      replace HBR:=kb_ HBR hbB;replace HC:=ze (HC.out.below hbB);replace HWR:=eb_ HWR hbB;replace HP:=kb_ HP hbB;generalize grown WP t9=WQ at hbB HBR HC HWR HP |-;clear t9;have b0:=HBR.out.cell 0;have bL:=HBR.out.lt;have cL:=HP.out.lt;simp at b0;clear c1 c2 lc qc cL;have hip:i<k1:=hil;have hcs:zV (zh (c i)):=yp (Dz.short (HGK.out.cd i hip) (show 12<50000 by omega));have HCS:=ze hcs;have hp1:=(HPUT.out WQ _ (n.pf i) (n.pt i) (zh (c i)) HWR.out HC.out HBR.out hf0 ht0 (by rw [HM.out];exact HGK.out.tab_smallS (by omega)) hcs)
      have hpe:∀ i' j,i' <m->j<25->ztf m (zdd m (txt (ZD n.pf n.pt c fx wl asked k0 i))) (Xo fx asked (n.pf i)) (Xo fx asked (n.pt i)) (zh (xL fx (n.pt i))) (zh (c i)) i' j=zdd m (txt (zg0 n.pf n.pt c fx wl asked k0 i)) i' j:=by
       intro i' j h _;rw [zhn h];rw [HM.out] at h |-;exact HGK.out.put1 hip h
      have HPE:=ze hpe;clear hpe hcs;go_wp2_with fail;refine hp1.mono ?_;rintro e W3 ⟨rfl,hR3,hg3⟩;clear hp1;have HC2:=ze (hR3.congr HPE.out);have HBR2:=ze (HBR.out.grown hg3 (by intro e;injection e;omega));have HP2:=ze (HP.out.grown hg3 (by intro e;injection e with e;exact hqr e));have HWR2:=ze (HWR.out.grown hg3 HWR.out.size (fun k hk=>by injection hk with hk;omega));clear hR3 hg3 HC HBR HP HWR HPE;have c1:=HP2.out.cell 1;have c2:=HP2.out.cell 2;have cL:=HP2.out.lt;simp only [List.getElem?_toArray,List.getElem?_cons_succ,List.getElem?_cons_zero] at c1 c2;obtain ⟨lc,qc⟩:=HQC.out W3 HWR2.out;go_wp2_with fail;have c1g:=zF cL c1;have c2g:=zF cL c2;have qcg:=vW lc qc;refine yu 9 (by kernel_rfl) (by kernel_rfl) ?_;simp only [List.take_succ_cons,List.take_zero,List.drop_succ_cons,List.drop_zero]
      repeat (quiet_step (fail))
      refine wpQuiet_nil ?_;rintro w9 ⟨t9,rfl⟩;clear c1g c2g qcg;have hbB:=yq W3 t9
      try clear b0 bL cL
      replace HBR2:=kb_ HBR2 hbB;replace HC2:=ze (HC2.out.below hbB);replace HWR2:=eb_ HWR2 hbB;replace HP2:=kb_ HP2 hbB;generalize grown W3 t9=W4 at hbB HBR2 HC2 HWR2 HP2 |-;clear t9;have b0:=HBR2.out.cell 0;have bL:=HBR2.out.lt;have cL:=HP2.out.lt;simp at b0;clear c1 c2 lc qc cL;have hp1:=(HPUT.out W4 _ (n.pt i) (n.pf i) (zh (c i)) HWR2.out HC2.out HBR2.out ht0 hf0 (by rw [HM.out];exact HGK.out.half_smallS (by omega)) HCS.out)
      have hpe:∀ i' j,i' <m->j<25->ztf m (zdd m (txt (zg0 n.pf n.pt c fx wl asked k0 i))) (Xo fx asked (n.pt i)) (Xo fx asked (n.pf i)) (zh (xL fx (n.pf i))) (zh (c i)) i' j=txt (ZD n.pf n.pt c fx wl asked k0 (i+1)) i' j:=by
       intro i' j h _;rw [HM.out] at h |-;exact HGK.out.put2 hip h
      have HPE:=ze hpe;clear hpe;go_wp2_with fail;refine hp1.mono ?_;rintro e W5 ⟨rfl,hR3,hg3⟩;clear hp1;have HC3:=ze (hR3.congr HPE.out);have HBR3:=ze (HBR2.out.grown hg3 (by intro e;injection e;omega));have HWR3:=ze (HWR2.out.grown hg3 HWR2.out.size (fun k hk=>by injection hk with hk;omega));clear hR3 hg3 HC2 HBR2 HP2 HWR2 HPE;go_wp2_with fail;go_round
      case rel=>exact ⟨i+1,by omega,by go_num,HC3,HBR3,HWR3⟩
      case measure=>simp [intOf];omega
    obtain rfl:k1=i:=by have:=HK1.out;omega
    have hbf:=HBF.out.below HWR.out HBF.out.lt;have f0:=hbf.cell 0;have b0:=HBR.out.cell 0;simp at f0 b0;clear hbf;have hm24:(m:Int)<=24:=by omega
    have hsv:=zkb WF.heap.size m 200 (ZD n.pf n.pt c fx wl asked k0 k1) wr HR.out (by rw [HM.out];exact HGK.out.elim) (by omega) (by rw [HM.out];exact HGK.out.fits);have hlr:=HR.out.lt;go_wp2_with fail;refine hsv.mono ?_;rintro e W2 ⟨v8,A,rfl,hEl,hown,hg2⟩;clear hsv f0 b0;obtain ⟨x,hx⟩:∃ x,x=fun i=>A i m / A i i:=⟨_,rfl⟩
    have hown:W2.ownsRow wr.heap.size 28 1 v8 m ((List.range m).map fun i=>str (zh (x i))):=by rw [hx];exact hown
    have hsol:vG m (ZD n.pf n.pt c fx wl asked k0 k1) x:=by rw [hx];exact hEl.1.done
    have hxd:∀ i,i<m->Dz 12800 (x i):=by
     intro i hi
     have hle:200*2 ^ m<=12800:=by
      have:2 ^ m<=2 ^ 6:=Nat.pow_le_pow_right (by omega) hm6
      omega
     rw [hx];exact hEl.answer_dz hle hi
    have HSOL:=ze hsol;have HXD:=ze hxd;clear hx hEl hsol hxd;obtain ⟨A8,c8,hv8⟩:=zbm hown;subst hv8;have HWR2:=ze (HWR.out.grown hg2 HWR.out.size (fun k hk=>by injection hk with hk;omega));have hlt:=HBF.out.lt;have hB5:=HB.out;have HO:=ze ((HRO.out.below HWR2.out).congr (zsu (x:=x) (asked:=asked)));have HBO2:=ze (HBO.out.below HWR2.out HBO.out.lt);have HBF2:=ze (HBF.out.below HWR2.out HBF.out.lt);have HFO2:=ze (ZF HFO.out HWR2.out);have HOW:=ze hown;have HW2:=ze (ext HW.out HWR2.out);have hg8:gO<wr.heap.size:=by omega
    obtain ⟨B8,hB8⟩:∃ B,B=wr.heap.size:=⟨_,rfl⟩;rw [<- hB8] at HOW hg8;have HB8:=ze hg8;clear hlt hB5 hown hg2 HWR HWR2 HR HBR hB8 hg8 hlr HRO HBO HBF HFO HFR;go_wp2_with fail
    go_loopw [152] (HeaO fx asked x k0 m gO bO bF B8 Af A8 cf c8 w) (fun iv _=>m - (intOf iv).toNat)
    case atStart=>exact ⟨0,Nat.zero_le _,rfl,HO,HBO2,HBF2,HFO2,HOW,HW2⟩
    case round=>
     clear HO HBO2 HBF2 HFO2 HOW HW2;obtain ⟨i,hi,rfl,HO,HBO,HBF,HFO,HOW,HW2⟩:=hrel
     by_cases hil:i<m
     rotate_left
     . obtain rfl:m=i:=by omega
       have o0:=HBO.out.cell 0;simp at o0;go_wp2_with fail;go_ret;refine ⟨some ⟨gO,0,none⟩,k0,zkt fx asked x,by rw [<- HK0.out];rfl,HK0.out,?_,fun k hk=>?_,?_,HW2.out⟩
       . rw [<- HK0.out, <- HK1.out]
         exact zro n.pf n.pt c fx wl asked HGK.out.piped (by rw [<- HM.out];exact HSOL.out)
       . rw [<- HK0.out] at hk
         by_cases h:zt fx asked k=true
         . rw [Ys _ _ h]
           exact (HXD.out _ (by rw [HM.out];exact Yn _ hk h)).more (by omega)
         rw [zac _ _ h]
         exact (HGK.out.fd k hk).more (by omega)
       . rw [<- HK0.out]
         have h:=Blk.reads (n:=k0) HO.out (by simp [row]);rw [HM.out,ziw zud] at h;rw [List.take_of_length_le (by simp [row])] at h;exact h
     have hii:(i:Int)<(m:Int):=by omega
     obtain ⟨kf,hkf⟩:∃ kf,kf=(xZ (zt fx asked) k0).getD i 0:=⟨_,rfl⟩
     obtain ⟨ad,e1,hb1,q0⟩:∃ ad,Af=some ad/\ad.block<wr.heap.size/\wr.cell? (ad.add i)=some (.int .i64 (kf:Int)):=by
      obtain ⟨ad,e1,hb,hc⟩:=(zK.of_own HFO.out).2 (by omega);exact ⟨ad,e1,hb,hc i _ (by rw [zg2 (by rw [<- HM.out];exact hil),hkf])⟩
     obtain ⟨a8,e8,hb8,q8⟩:∃ ad,A8=some ad/\ad.block<wr.heap.size/\wr.cell? (ad.add i)=some (str (zh (x i))):=by
      obtain ⟨ad,e1,hb,hc⟩:=(zK.of_own HOW.out).2 (by omega);exact ⟨ad,e1,hb,hc i _ (by rw [List.getElem?_map,List.getElem?_range hil];rfl)⟩
     subst e1;subst e8;have hkl:kf<k0:=by rw [hkf];exact (Z2 _ (by rw [<- HM.out];exact hil)).1
     have HKF:=ze hkf;clear hkf;have hkf1:(kf:Int)<(k0:Int):=by omega
     have o0:=HBO.out.cell 0;have f0:=HBF.out.cell 0;simp at o0 f0;have co:=HO.out.cell hkl;have fo:=HO.out.frozen kf;have lo:=HO.out.lt;have hne:bO≠gO/\bF≠gO/\gO<bF+1/\gO<B8/\w.heap.size<=gO:=by have:=HB.out;have:=HB8.out;omega
     have hO2:=HO.out.set_ (k:=kf) (v:=str (zh (x i))) (f' :=zrw fx asked x (i+1)) (by rw [HKF.out];exact zwt (by rw [<- HM.out];exact hil)) (fun j hj hne=>zvj (by rw [<- HM.out];exact hil) j hj (by rw [<- HKF.out];exact hne));have hBO2:=HBO.out.far (p:=⟨gO,kf,none⟩) hne.1 (str (zh (x i)));have hBF2:=HBF.out.far (p:=⟨gO,kf,none⟩) hne.2.1 (str (zh (x i)));have hFO2:=zcj HFO.out (p:=⟨gO,kf,none⟩) hne.2.2.1 (str (zh (x i)));have hOW2:=zcj HOW.out (p:=⟨gO,kf,none⟩) hne.2.2.2.1 (str (zh (x i)));have hW2:=HW2.out.setCell (p:=⟨gO,kf,none⟩) hne.2.2.2.2 (str (zh (x i)));have HO2:=ze hO2;have HBO2:=ze hBO2;have HBF2:=ze hBF2;have HFO2:=ze hFO2;have HOW2:=ze hOW2;have HW3:=ze hW2;clear hO2 hBO2 hBF2 hFO2 hOW2 hW2 hne;go_wp2_with fail
     go_region
     have hdr:Below (wr.setCell ⟨gO,kf,none⟩ (.string ⟨(zh (x i)).toArray⟩)).heap.size (wr.setCell ⟨gO,kf,none⟩ (.string ⟨(zh (x i)).toArray⟩)) (wr.setCell ⟨gO,kf,none⟩ (.string ⟨(zh (x i)).toArray⟩)).drew:=zw _ 1;go_wp2_with fail;go_round
     case rel=>exact ⟨i+1,by omega,by go_num,HO2.out.below hdr,HBO2.out.below hdr HBO2.out.lt,HBF2.out.below hdr HBF2.out.lt,ZF HFO2.out hdr,ZF HOW2.out hdr,ext HW3.out hdr⟩
     case measure=>simp [intOf];omega
def yP (l:List UInt8):Int:=if zY l≠0 then zY l else if vS l<=0 then 1 else 0
open Classical in
noncomputable def xw (n:Net) (cs:List (List UInt8)):Int:=if cs.length≠n.pipes.length then 1 else zW cs.length (fun i=>yP (cs.getD i []))
noncomputable def YK (n:Net) (cs:List (List UInt8)):Int:=if n.err≠0 then n.err else xw n cs
theorem zl6 {l:List UInt8} (h:yP l=0):∃ q,l=zh q/\zG 12 q/\0<q:=by
 unfold yP at h
 by_cases h0:zY l=0
 rotate_left
 . rw [if_pos h0] at h;exact absurd h h0
 rw [if_neg (by rw [h0];decide)] at h
 obtain ⟨q,h1,h2,h3,h4⟩:=vF h0;refine ⟨q,h4,h2,?_⟩;rw [h3] at h
 by_cases h5:q<=0
 . rw [if_pos h5] at h;cases h
 grind
theorem zkz (l:List UInt8) (w:World) (hs:zV l):Calls Tryz.prog 77 #[str l] w (vO w (.int .i64 (yP l))):=by
 have hsl:=yE hs
 have h1:=fun w=>Vo ⟨l.toArray⟩ w hsl
 rw [yy] at h1
 obtain ⟨r,HR⟩:∃ r,Hid (yP l=r):=⟨_,ze rfl⟩
 rw [HR.out]
 unfold yP at HR
 by_cases h0:zY l=0
 rotate_left
 . obtain ⟨x,HX⟩:∃ x,Hid (zY l=x):=⟨_,ze rfl⟩
   rw [HX.out] at h0 h1 HR;have HF:Hid (r=x):=ze (by have:=HR.out;rw [if_pos h0] at this;exact this.symm);have hI:(x != 0)=true:=by rw [bne_iff_ne];exact h0
   clear h0 HR hs hsl
   go_enter Tryz.func77,Tryz.ntmps77
   go_wp2_with fail;refine (h1 _).mono ?_;rintro e w1 ⟨rfl,hb1⟩;have HW:=ze hb1;clear hb1 h1;go_wp2_with fail;go_ret;exact ⟨zr HF.out,HW.out⟩
 obtain ⟨q,e1,e2,e3,e4⟩:=vF h0
 have h2:∀ w,Calls Tryz.prog 100 #[.string ⟨#[48]⟩,str l] w (vO w (.bool (decide (0<q)))):=by
  intro w;have h:=zbv ⟨#[48]⟩ ⟨l.toArray⟩ w (by decide) hsl;rw [show bts ⟨#[48]⟩=[48] from rfl,yy,zem za0 e1] at h;exact h
 rw [h0,if_neg (by decide),e3] at HR;rw [h0] at h1;clear e1 e2 e3 e4 h0 hs hsl
 by_cases hq:0<q
 . have HF:Hid (r=0):=ze (by have:=HR.out;rw [if_neg (by grind)] at this;exact this.symm)
   rw [decide_eq_true hq] at h2;clear hq HR
   go_enter Tryz.func77,Tryz.ntmps77
   go_wp2_with fail;refine (h1 _).mono ?_;rintro e w1 ⟨rfl,hb1⟩;have HW:=ze hb1;clear hb1 h1;go_wp2_with fail;refine (h2 _).mono ?_;rintro e w2 ⟨rfl,hb2⟩;have HW2:=ze (ext HW.out hb2);clear hb2 h2;go_wp2_with fail;go_ret;exact ⟨zr HF.out,HW2.out⟩
 have HF:Hid (r=1):=ze (by have:=HR.out;rw [if_pos (by grind)] at this;exact this.symm)
 rw [decide_eq_false hq] at h2;clear hq HR
 go_enter Tryz.func77,Tryz.ntmps77
 go_wp2_with fail;refine (h1 _).mono ?_;rintro e w1 ⟨rfl,hb1⟩;have HW:=ze hb1;clear hb1 h1;go_wp2_with fail;refine (h2 _).mono ?_;rintro e w2 ⟨rfl,hb2⟩;have HW2:=ze (ext HW.out hb2);clear hb2 h2;go_wp2_with fail;go_ret;exact ⟨zr HF.out,HW2.out⟩
def CndR (cs:List (List UInt8)) (w:World) (nb:Array Value) (iv:Value) (wr:World):Prop:=
 ∃ i:Nat,i<=cs.length/\iv= .int .i64 i/\Hid (∀ j,j<i->yP (cs.getD j [])=0)/\Hid (Blk wr w.heap.size 26 nb)/\Hid (Below w.heap.size w wr)
theorem zdw (vn vc:Value) (n:Net) (cs:List (List UInt8)) (w:World) (hn:Zw w vn n) (hc:yY w vc cs):
 Calls Tryz.prog 46 #[vn,vc] w (vO w (.int .i64 (xw n cs))):=by
 obtain ⟨A0,k0,c0,A1,k1,c1,A2,k2,c2,A3,k3,c3,rfl,hn0,hn1,hn2,hn3⟩:=hn
 have hk1:k1=n.pipes.length:=by obtain ⟨A',c',e,_⟩:=hn1;injection e
 have hb1:k1<=1000:=by obtain ⟨A',c',e,_,_,h6,_⟩:=hn1;omega
 have HC:=ze hc
 obtain ⟨Ac,cc,rfl,hc1,hc2,hc3,hcr,hcs⟩:=hc
 have HCS:=ze hcs
 have HW:=ze (zg w (.cells #[.slice A0 k0 c0,.slice A1 k1 c1,.slice A2 k2 c2,.slice A3 k3 c3] 26))
 have HK:=ze (Blk.new w 26 #[.slice A0 k0 c0,.slice A1 k1 c1,.slice A2 k2 c2,.slice A3 k3 c3])
 have HK1:=ze hk1
 obtain ⟨r,HR⟩:∃ r,Hid (xw n cs=r):=⟨_,ze rfl⟩
 rw [HR.out]
 unfold xw at HR
 clear hn0 hn1 hn2 hn3 hk1 hcr hcs hc2
 obtain ⟨r0,r1,r2,r3,rL⟩:=yG HK.out
 by_cases hl:cs.length=k1
 rotate_left
 . have HF:Hid (r=1):=ze (by have:=HR.out;rw [if_pos (by have:=HK1.out;omega)] at this;exact this.symm)
   have hI:((cs.length:Int) != (k1:Int))=true:=by rw [bne_iff_ne];omega
   clear HR
   go_enter Tryz.func46,Tryz.ntmps46
   go_wp2_with fail;go_ret;exact ⟨zr HF.out,HW.out⟩
 have HR2:Hid (zW cs.length (fun i=>yP (cs.getD i []))=r):=ze (by have:=HR.out;rw [if_neg (by have:=HK1.out;omega)] at this;exact this)
 clear HR;subst hl;have hI:((cs.length:Int) != (cs.length:Int))=false:=by simp
 go_enter Tryz.func46,Tryz.ntmps46
 go_wp2_with fail;clear r0 r1 r2 r3 rL
 go_loopw [16] (CndR cs w #[.slice A0 k0 c0,.slice A1 cs.length c1,.slice A2 k2 c2,.slice A3 k3 c3]) (fun iv _=>cs.length - (intOf iv).toNat)
 case atStart=>exact ⟨0,Nat.zero_le _,rfl,fun j h=>by omega,HK,HW⟩
 case round=>
  clear HK HW;obtain ⟨i,hi,rfl,HD,HK,HW⟩:=hrel
  by_cases hlt:i<cs.length
  rotate_left
  . obtain rfl:i=cs.length:=by omega
    have HF:Hid (r=0):=ze (by rw [<- HR2.out];exact zN.2 HD.out);go_wp2_with fail;go_ret;exact ⟨zr HF.out,HW.out⟩
  obtain ⟨ad,e1,hb,p0⟩:=(HC.out.below HW.out).at_ hlt
  subst e1;have hi1:(i:Int)<(cs.length:Int):=by omega
  have hab:=fun w=>zkz cs[i] w (HCS.out _ (List.getElem_mem hlt))
  obtain ⟨ev,HEV⟩:∃ ev,Hid (yP cs[i]=ev):=⟨_,ze rfl⟩;rw [HEV.out] at hab;have hge:cs.getD i []=cs[i]:=by simp [List.getD,List.getElem?_eq_getElem hlt]
  by_cases h0:ev=0
  rotate_left
  . have hI2:(ev != 0)=true:=by rw [bne_iff_ne];exact h0
    have HF:Hid (r=ev):=ze (by
     have h:=xO hlt (f:=fun i=>yP (cs.getD i [])) (fun j hj=>HD.out j hj) (by rw [hge,HEV.out];exact h0)
     rw [<- HR2.out,h,hge,HEV.out])
    clear h0 hge;go_wp2_with fail;refine (hab _).mono ?_;rintro e WN ⟨rfl,hbB⟩
    try clear r0 r1 r2 r3 rL
    replace HK:=kb_ HK hbB;replace HW:=eb_ HW hbB;clear hbB;obtain ⟨r0,r1,r2,r3,rL⟩:=yG HK.out;go_wp2_with fail;go_ret;exact ⟨zr HF.out,HW.out⟩
  subst h0
  have HNX:Hid (∀ j,j<i+1->yP (cs.getD j [])=0):=by
   intro m hm
   rcases Nat.lt_or_ge m i with h3 | h3
   . exact HD.out m h3
   . obtain rfl:m=i:=by omega
     rw [hge];exact HEV.out
  clear hge;go_wp2_with fail;refine (hab _).mono ?_;rintro e WN ⟨rfl,hbB⟩
  try clear r0 r1 r2 r3 rL
  replace HK:=kb_ HK hbB;replace HW:=eb_ HW hbB;clear hbB;obtain ⟨r0,r1,r2,r3,rL⟩:=yG HK.out;go_wp2_with fail;go_round
  case rel=>exact ⟨i+1,by omega,by go_num,HNX,HK,HW⟩
  case measure=>simp [intOf];omega
theorem zfa (vn vc:Value) (n:Net) (cs:List (List UInt8)) (w:World) (hn:Zw w vn n) (hc:yY w vc cs):
 Calls Tryz.prog 18 #[vn,vc] w (vO w (.int .i64 (YK n cs))):=by
 have h1:=fun w' (h:Below w.heap.size w w')=>ze5 vn n w' (hn.below h)
 have h2:=fun w' (h:Below w.heap.size w w')=>zdw vn vc n cs w' (hn.below h) (hc.below h)
 obtain ⟨r,HR⟩:∃ r,Hid (YK n cs=r):=⟨_,ze rfl⟩
 rw [HR.out]
 unfold YK at HR
 obtain ⟨x,HX⟩:∃ x,Hid (n.err=x):=⟨_,ze rfl⟩
 obtain ⟨y,HY⟩:∃ y,Hid (xw n cs=y):=⟨_,ze rfl⟩
 rw [HX.out,HY.out] at HR
 rw [HX.out] at h1
 rw [HY.out] at h2
 obtain ⟨A0,k0,c0,A1,k1,c1,A2,k2,c2,A3,k3,c3,rfl,hn0,hn1,hn2,hn3⟩:=hn
 have HW:=ze (zg w (.cells #[.slice A0 k0 c0,.slice A1 k1 c1,.slice A2 k2 c2,.slice A3 k3 c3] 26))
 have HK:=ze (Blk.new w 26 #[.slice A0 k0 c0,.slice A1 k1 c1,.slice A2 k2 c2,.slice A3 k3 c3])
 clear hn0 hn1 hn2 hn3 hc
 obtain ⟨r0,r1,r2,r3,rL⟩:=yG HK.out
 by_cases h0:x=0
 rotate_left
 . have hI:(x != 0)=true:=by rw [bne_iff_ne];exact h0
   have HF:Hid (r=x):=ze (by have:=HR.out;rw [if_pos h0] at this;exact this.symm);clear HR h0
   go_enter Tryz.func18,Tryz.ntmps18
   go_wp2_with fail;refine (h1 _ HW.out).mono ?_;rintro e WN ⟨rfl,hbB⟩
   try clear r0 r1 r2 r3 rL
   replace HK:=kb_ HK hbB;replace HW:=eb_ HW hbB;clear hbB;obtain ⟨r0,r1,r2,r3,rL⟩:=yG HK.out;clear h1 h2;go_wp2_with fail;go_ret;exact ⟨zr HF.out,HW.out⟩
 have HF:Hid (r=y):=ze (by have:=HR.out;rw [if_neg (by rw [h0];decide)] at this;exact this.symm)
 subst h0;clear HR
 go_enter Tryz.func18,Tryz.ntmps18
 go_wp2_with fail;refine (h1 _ HW.out).mono ?_;rintro e WN ⟨rfl,hbB⟩
 try clear r0 r1 r2 r3 rL
 replace HK:=kb_ HK hbB;replace HW:=eb_ HW hbB;clear hbB;obtain ⟨r0,r1,r2,r3,rL⟩:=yG HK.out;clear h1;go_wp2_with fail;refine (h2 _ HW.out).mono ?_;rintro e WN ⟨rfl,hbB⟩
 try clear r0 r1 r2 r3 rL
 replace HK:=kb_ HK hbB;replace HW:=eb_ HW hbB;clear hbB;obtain ⟨r0,r1,r2,r3,rL⟩:=yG HK.out;clear h2;go_wp2_with fail;go_ret;exact ⟨zr HF.out,HW.out⟩
def zyj (N:Nat) (w:World) (e:Ending) (w' :World):Prop:=∃ v,e= .returned v/\Zy w' v (List.replicate N true)/\Below w.heap.size w w'
def WhoR (N g:Nat) (w:World) (nb:Array Value) (iv:Value) (wr:World):Prop:=
 ∃ i:Nat,i<=N/\iv= .int .i64 i/\Hid (vK wr g (List.replicate i true ++ List.replicate (N - i) false) [])/\Hid (Blk wr w.heap.size 26 nb)/\Hid (Below w.heap.size w wr)
theorem zxb {N i:Nat} (hi:i<N):(List.replicate i true ++ List.replicate (N - i) false).set i true=List.replicate (i+1) true ++ List.replicate (N - (i+1)) false:=by
 rw [List.set_append_right _ _ (by simp)]
 rw [show N - i=(N - (i+1))+1 by omega,List.replicate_succ,List.length_replicate,Nat.sub_self,List.set_cons_zero,List.replicate_succ']
 simp
theorem zmm (vn:Value) (n:Net) (w:World) (hn:Zw w vn n):Calls Tryz.prog 44 #[vn] w (zyj n.nodes.length w):=by
 obtain ⟨A0,k0,c0,A1,k1,c1,A2,k2,c2,A3,k3,c3,rfl,hn0,hn1,hn2,hn3⟩:=hn
 have hk0:k0=n.nodes.length:=by obtain ⟨A',c',e,_⟩:=hn0;injection e
 have hb0:k0<=1000:=by obtain ⟨A',c',e,_,_,h6,_⟩:=hn0;omega
 have HK0:=ze hk0
 have HW:=ze (zg w (.cells #[.slice A0 k0 c0,.slice A1 k1 c1,.slice A2 k2 c2,.slice A3 k3 c3] 26))
 have HK:=ze (Blk.new w 26 #[.slice A0 k0 c0,.slice A1 k1 c1,.slice A2 k2 c2,.slice A3 k3 c3])
 have hmk:=fun w=>za7 .i64 k0 (by omega) w
 clear hn0 hn1 hn2 hn3 hk0
 obtain ⟨r0,r1,r2,r3,rL⟩:=yG HK.out
 go_enter Tryz.func44,Tryz.ntmps44
 go_wp2_with fail
 clear hmk r0 r1 r2 r3 rL
 have hx:=zg (w.alloc (.cells #[.slice A0 k0 c0,.slice A1 k1 c1,.slice A2 k2 c2,.slice A3 k3 c3] 26)) (.cells (xU (List.replicate k0 false)).toArray 4)
 have hbm:vK ((w.alloc (.cells #[.slice A0 k0 c0,.slice A1 k1 c1,.slice A2 k2 c2,.slice A3 k3 c3] 26)).alloc (.cells (xU (List.replicate k0 false)).toArray 4)) (w.heap.size+1) (List.replicate 0 true ++ List.replicate (k0 - 0) false) []:=by
  unfold vK
  rw [List.append_nil]
  have h:=Blk.new (w.alloc (.cells #[.slice A0 k0 c0,.slice A1 k1 c1,.slice A2 k2 c2,.slice A3 k3 c3] 26)) 4 (xU (List.replicate k0 false)).toArray
  simp only [World.size_alloc] at h
  exact h
 have HBM:=ze hbm
 clear hbm
 replace HK:=kb_ HK hx
 replace HW:=eb_ HW hx
 clear hx
 generalize (w.alloc (.cells #[.slice A0 k0 c0,.slice A1 k1 c1,.slice A2 k2 c2,.slice A3 k3 c3] 26)).alloc (.cells (xU (List.replicate k0 false)).toArray 4)=WM at HK HW HBM |-
 go_loopw [11] (WhoR k0 (w.heap.size+1) w #[.slice A0 k0 c0,.slice A1 k1 c1,.slice A2 k2 c2,.slice A3 k3 c3]) (fun iv _=>k0 - (intOf iv).toNat)
 case atStart=>exact ⟨0,Nat.zero_le _,rfl,HBM,HK,HW⟩
 case round=>
  clear HK HW HBM
  obtain ⟨i,hi,rfl,HBM,HK,HW⟩:=hrel
  by_cases hlt:i<k0
  rotate_left
  . obtain rfl:i=k0:=by omega
    go_wp2_with fail;go_ret;refine ⟨.slice (some ⟨w.heap.size+1,0,none⟩) i i,rfl,⟨some ⟨w.heap.size+1,0,none⟩,i,by rw [List.length_replicate,HK0.out],by rw [List.length_replicate,HK0.out];exact Nat.le_refl _,by unfold maxLen;omega,?_⟩,HW.out⟩;have h:=HBM.out.reads;rw [Nat.sub_self,List.replicate_zero,List.append_nil] at h;rw [<- HK0.out];exact h
  have hi1:(i:Int)<(k0:Int):=by omega
  have hal:i<(List.replicate i true ++ List.replicate (k0 - i) false).length:=by simp;omega
  have c1:=HBM.out.cell hal;have f1:=HBM.out.frozen i;have l1:=HBM.out.lt;have HB2:=HBM.out.set_ hal true;rw [zxb hlt] at HB2;have HB3:=ze HB2;generalize (List.replicate i true ++ List.replicate (k0 - i) false)[i]=x at c1;clear HB2 hal;have hgn:w.heap.size≠w.heap.size+1:=by omega
  go_wp2_with fail;go_round
  case rel=>exact ⟨i+1,by omega,by go_num,HB3,HK.out.far hgn _,HW.out.setCell (by simp only;omega) _⟩
  case measure=>simp [intOf];omega
theorem Net.err_zero {n:Net} (h:n.err=0):n.P5/\∀ k,k<n.nodes.length->xg n.pipes.length n.pf n.pt (Net.on n.heads) k:=by
 have h1:n.P1:=by
  refine ⟨fun h2=>?_,fun h2=>?_⟩
  . rw [Net.err_many h2] at h;cases h
  rw [Net.err_none h2] at h;cases h
 have hfirst:∀ {m:Nat} {f:Nat->Int},zW m f≠0->∃ k,k<m/\(∀ j,j<k->f j=0)/\f k≠0:=by
  intro m f
  induction m with
  | zero=>intro h;exact absurd rfl h
  | succ m ih=>
    intro h;unfold zW at h
    by_cases h0:zW m f=0
    . rw [if_pos h0] at h
      exact ⟨m,by omega,zN.1 h0,h⟩
    obtain ⟨k,hk,h2,h3⟩:=ih h0
    exact ⟨k,by omega,h2,h3⟩
 have h2:n.P2:=⟨h1,Classical.byContradiction fun hne=>by
  obtain ⟨k,hk,h3,h4⟩:=hfirst hne
  have:=Net.err_node h1 hk h3 rfl h4
  exact h4 (this.symm.trans h)⟩
 have h48:¬ 48<n.pipes.length:=fun h3=>by rw [Net.err_pipes h2 h3] at h;cases h
 have h3:n.P3:=⟨h2,h48,Classical.byContradiction fun hne=>by
  obtain ⟨k,hk,h3,h4⟩:=hfirst hne
  have:=Net.err_pipe h2 h48 hk h3 rfl h4
  exact h4 (this.symm.trans h)⟩
 have h4:n.P4:=⟨h3,Classical.byContradiction fun hne=>by
  have:=Net.err_heads h3 rfl hne
  exact hne (this.symm.trans h)⟩
 have h5:n.P5:=⟨h4,Classical.byContradiction fun hne=>by
  obtain ⟨k,hk,h3,h4'⟩:=hfirst hne
  have:=Net.err_well h4 hk h3 rfl h4'
  exact h4' (this.symm.trans h)⟩
 refine ⟨h5,Classical.byContradiction fun hne=>?_⟩
 have:=(Net.err_end h5).1 hne
 rw [h] at this;cases this
theorem VH {q:Rat} (h:zG 12 q):Dz 12 q:=zG.sz h
def ztq (l:List yU):Prop:=∀ v∈l,zY v.value=0
theorem ztq.text {l:List yU} (h:ztq l) (k:Nat):Ym l (k:Int)=zh ((Net.at_ l k).getD 0)/\(l.find? (fun v=>v.node == (k:Int))).isSome=(Net.at_ l k).isSome/\zG 12 ((Net.at_ l k).getD 0):=by
 unfold Ym Net.at_
 cases hf:l.find? (fun v=>v.node == (k:Int)) with
 | none=>exact ⟨(yO.2 rfl).symm,rfl,by have:=Dz.short (Dz.zero 1) (show 1<12 by omega);simpa using this⟩
 | some v=>
   obtain ⟨q,h1,h2,h3,h4⟩:=vF (h v (List.mem_of_find?_eq_some hf));refine ⟨?_,rfl,?_⟩
   . simp only [Option.map_some,Option.getD_some]
     rw [h3];exact h4
   simp only [Option.map_some,Option.getD_some]
   rw [h3];exact h2
theorem Net.P4.levs {n:Net} (h:n.P4):ztq n.heads:=by
 intro v hv
 obtain ⟨i,hi,rfl⟩:=List.mem_iff_getElem.1 hv
 exact (Net.level_ok (zN.1 h.2 i hi) hi).2.2.1
theorem Net.P5.levs {n:Net} (h:n.P5):ztq n.wells:=by
 intro v hv
 obtain ⟨i,hi,rfl⟩:=List.mem_iff_getElem.1 hv
 exact (Net.level_ok (Net.wellErr_ok (zN.1 h.2 i hi)).1 hi).2.2.1
theorem zzh {l:List yU} {k:Nat} (h:Net.on l k):Net.at_ l k≠none:=by
 obtain ⟨v,hv,e⟩:=h
 unfold Net.at_
 intro h2
 have h3:=(Net.find_isSome (l:=l) (z:=(k:Int))).2 (List.mem_map.2 ⟨v,hv,e⟩)
 cases hf:l.find? (fun v=>v.node == (k:Int)) with
 | none=>rw [hf] at h3;cases h3
 | some v=>rw [hf] at h2;cases h2
theorem X8 {n:Net} {cs:List (List UInt8)} (h:xw n cs=0):cs.length=n.pipes.length/\∀ i (hi:i<cs.length),cs[i]=zh (vS (cs.getD i []))/\zG 12 (vS (cs.getD i []))/\0<vS (cs.getD i []):=by
 unfold xw at h
 by_cases hl:cs.length=n.pipes.length
 rotate_left
 . rw [if_pos (by omega)] at h;cases h
 rw [if_neg (by omega)] at h
 refine ⟨hl,fun i hi=>?_⟩;have h1:=zN.1 h i hi;have hge:cs.getD i []=cs[i]:=by simp [List.getD,List.getElem?_eq_getElem hi]
 rw [hge] at h1 |-
 have hne:zY cs[i]=0:=by
  unfold yP at h1
  by_cases h0:zY cs[i]=0
  . exact h0
  rw [if_pos h0] at h1;exact absurd h1 h0
 obtain ⟨q,e1,e2,e3,e4⟩:=vF hne;obtain ⟨q',f1,f2,f3⟩:=zl6 h1;have:q=q' :=vZ (e4.symm.trans f1);subst this;rw [e3];exact ⟨e4,e2,f3⟩
def zl (cs:List (List UInt8)):Nat->Rat:=fun i=>vS (cs.getD i [])
def zx0 (N:Nat):Nat->Bool:=fun k=>(List.replicate N true).getD k false
theorem Net.piped {n:Net} (h:n.P3) {c:Nat->Rat} (hc:∀ i,i<n.pipes.length->0<c i):YN n.nodes.length n.pipes.length n.pf n.pt c:=by
 have he:=h.ends
 refine ⟨fun i hi=>(he i hi).2.1,fun i hi=>(he i hi).2.2.2,fun i hi e=>?_,hc⟩
 have h0:=(Net.pipe_ends (zN.1 h.2.2 i hi)).2.2.2.2.1
 have e1:n.pipes.getD i default=n.pipes[i]:=by simp [List.getD,List.getElem?_eq_getElem hi]
 rw [e1,(he i hi).1,(he i hi).2.2.1,e] at h0
 exact h0 rfl
theorem zvt {n:Net} {cs:List (List UInt8)} (h0:n.err=0) (hc:xw n cs=0) (hN:n.nodes.length<=6) (hp:n.pipes.length<=9):
 xP n.nodes.length n.pipes.length n.pf n.pt (zl cs) (Net.at_ n.heads) (fun k=>(Net.at_ n.wells k).getD 0) (zx0 n.nodes.length):=by
 obtain ⟨h5,hj⟩:=Net.err_zero h0
 obtain ⟨hl,hcs⟩:=X8 hc
 exact {
  piped:=Net.piped h5.1.1 (fun i hi=>(hcs i (by omega)).2.2)
  tied:=fun k hk _=>(hj k hk).mono fun j hj=>⟨Net.on_lt h5.1 j hj,zzh hj⟩
  cd:=fun i hi=>VH (hcs i (by omega)).2.1
  fd:=fun k _=>VH (h5.1.levs.text k).2.2
  wd:=fun k _=>VH (h5.levs.text k).2.2
  hN:=hN
  hp:=hp }
def znz (n:Net) (cs:List (List UInt8)) (h:Nat->Rat):Prop:=Yp n.nodes.length n.pipes.length n.pf n.pt (zl cs) (Net.at_ n.heads) (fun k=>(Net.at_ n.wells k).getD 0) (zx0 n.nodes.length) h
def zn3 (n:Net) (cs:List (List UInt8)) (w:World) (e:Ending) (w' :World):Prop:=
 Below w.heap.size w w' /\((YK n cs≠0/\e= .returned (.tuple #[.slice none 0 0,.int .i64 (YK n cs)]))\/
  (YK n cs=0/\∃ (A:Option Addr) (cap:Nat) (h:Nat->Rat),e= .returned (.tuple #[.slice A n.nodes.length cap,.int .i64 0])/\cap=n.nodes.length/\znz n cs h/\(∀ k,k<n.nodes.length->Dz 13000 (h k))/\
    zK w' w'.heap.size 1 A n.nodes.length (row n.nodes.length fun k=>str (zh (h k)))))
theorem zkw (vn vc:Value) (n:Net) (cs:List (List UInt8)) (w:World) (hn:Zw w vn n) (hc:yY w vc cs) (hsz:n.err=0->n.nodes.length<=6/\n.pipes.length<=9):
 Calls Tryz.prog 15 #[vn,vc] w (zn3 n cs w):=by
 have h1:=fun w' (h:Below w.heap.size w w')=>zfa vn vc n cs w' (hn.below h) (hc.below h)
 have h2:=fun w' (h:Below w.heap.size w w')=>zmm vn n w' (hn.below h)
 have HNET:=ze hn
 have HCN:=ze hc
 obtain ⟨x,HX⟩:∃ x,Hid (YK n cs=x):=⟨_,ze rfl⟩
 rw [HX.out] at h1
 unfold zn3
 rw [HX.out]
 obtain ⟨A0,k0,c0,A1,k1,c1,A2,k2,c2,A3,k3,c3,rfl,hn0,hn1,hn2,hn3⟩:=hn
 have HN2:=ze hn2
 have HN3:=ze hn3
 have HW:=ze (zg w (.cells #[.slice A0 k0 c0,.slice A1 k1 c1,.slice A2 k2 c2,.slice A3 k3 c3] 26))
 have HK:=ze (Blk.new w 26 #[.slice A0 k0 c0,.slice A1 k1 c1,.slice A2 k2 c2,.slice A3 k3 c3])
 clear hn0 hn1 hn2 hn3 hc
 obtain ⟨r0,r1,r2,r3,rL⟩:=yG HK.out
 by_cases h0:x=0
 rotate_left
 . have hI:(x != 0)=true:=by rw [bne_iff_ne];exact h0
   have HNE:=ze h0;clear h0 h2
   go_enter Tryz.func15,Tryz.ntmps15
   go_wp2_with fail;refine (h1 _ HW.out).mono ?_;rintro e WN ⟨rfl,hbB⟩
   try clear r0 r1 r2 r3 rL
   replace HK:=kb_ HK hbB;replace HW:=eb_ HW hbB;clear hbB;obtain ⟨r0,r1,r2,r3,rL⟩:=yG HK.out;clear h1;go_wp2_with fail;go_ret2;exact ⟨HW.out,.inl ⟨HNE.out,rfl⟩⟩
 have hz:n.err=0/\xw n cs=0:=by
  have h:=HX.out;unfold YK at h
  by_cases h3:n.err=0
  . rw [if_neg (by rw [h3];decide)] at h;exact ⟨h3,by rw [h];exact h0⟩
  rw [if_pos h3] at h;exact absurd (h.trans h0) h3
 have HG:=ze (zvt hz.1 hz.2 (hsz hz.1).1 (hsz hz.1).2);have HP5:=ze (Net.err_zero hz.1).1;have HCG:=ze (X8 hz.2);clear hz hsz
 have h3:=fun w' vb (hB:Below w.heap.size w w') (hb:Zy w' vb (List.replicate n.nodes.length true))=>zag (.agg #[.slice A0 k0 c0,.slice A1 k1 c1,.slice A2 k2 c2,.slice A3 k3 c3]) vc (.slice A2 k2 c2) (.slice A3 k3 c3) vb n cs n.heads n.wells (List.replicate n.nodes.length true) (zl cs) (Net.at_ n.heads) (fun k=>(Net.at_ n.wells k).getD 0) w' (HNET.out.below hB) (HCN.out.below hB) (HN2.out.below hB) (HN3.out.below hB) hb
  HCG.out.1 (fun i hi=>(HCG.out.2 i hi).1) (fun k _=>⟨(HP5.out.1.levs.text k).1,(HP5.out.1.levs.text k).2.1⟩) (fun k _=>(HP5.out.levs.text k).1) (by simp) HP5.out.1.1.ends HG.out
 subst h0;have H3:=ze h3;clear h3
 go_enter Tryz.func15,Tryz.ntmps15
 go_wp2_with fail;refine (h1 _ HW.out).mono ?_;rintro e WN ⟨rfl,hbB⟩
 try clear r0 r1 r2 r3 rL
 replace HK:=kb_ HK hbB;replace HW:=eb_ HW hbB;clear hbB;obtain ⟨r0,r1,r2,r3,rL⟩:=yG HK.out;clear h1;go_wp2_with fail
 (first | (go_region_held3 (fun w' =>Hid (Below WN.heap.size WN w')/\w'.cell? ⟨w.heap.size,0,none⟩=some (.slice A0 k0 c0)/\w'.cell? ⟨w.heap.size,1,none⟩=some (.slice A1 k1 c1)/\w'.cell? ⟨w.heap.size,2,none⟩=some (.slice A2 k2 c2)/\w'.cell? ⟨w.heap.size,3,none⟩=some (.slice A3 k3 c3)/\w.heap.size<w'.heap.size)
   (first
     | (with_reducible refine zx ?_ (fun hB=>⟨zk hB rL r0,zk hB rL r1,zk hB rL r2,zk hB rL r3,zdf hB rL⟩);with_reducible exact z8 _)
     | (go_split_ands;with_reducible refine zx ?_ (fun hB=>⟨zk hB rL r0,zk hB rL r1,zk hB rL r2,zk hB rL r3,zdf hB rL⟩);first | with_reducible exact zu ‹_› ‹_› | with_reducible exact Zj ‹_› | with_reducible exact zL _ _))
   (first
     | (go_at_call 44;go_split_ands;refine (h2 _ (ext HW.out (zB (by assumption:Hid (Below WN.heap.size WN _))))).mono ?_;rintro e w1 ⟨v1,rfl,hv1,hb1⟩;have HV:=ze hv1;clear hv1)
     | (go_at_call 20;go_split_ands;refine (H3.out _ _ (ext HW.out (zB (by assumption:Hid (Below WN.heap.size WN _)))) HV.out).mono ?_;rintro e w2 ⟨A9,cap9,h9,rfl,hcap,hIs,hdz,hrd,hb2⟩;have HIS:=ze hIs;have HDZ:=ze hdz;have HRD:=ze hrd;have HCAP:=ze hcap;clear hIs hdz hrd hcap))) | fail "region")
 go_split_ands;have HBZ:=zB (by assumption:Hid (Below WN.heap.size WN _));obtain ⟨w4,hWX,HBY⟩:=(⟨_,rfl,HBZ⟩:∃ X,X=_/\Below WN.heap.size WN X);rw [<- hWX] at HRD |-;clear hWX HBZ
 try clear r0 r1 r2 r3 rL
 replace HK:=kb_ HK HBY;replace HW:=eb_ HW HBY;clear HBY;obtain ⟨r0,r1,r2,r3,rL⟩:=yG HK.out;go_wp2_with fail;go_ret2;exact ⟨HW.out,.inr ⟨trivial,A9,cap9,h9,rfl,HCAP.out,HIS.out,HDZ.out,HRD.out⟩⟩
def xi:Net:=⟨[[112,105,116],[109,105,100],[114,105,118,101,114]],[⟨[97],0,1,[49],[50]⟩,⟨[98],1,2,[49],[49]⟩],[⟨0,[48]⟩,⟨2,[57]⟩],[]⟩
theorem X6 (k:Nat):zh (k:Rat)=dec k:=by
 unfold zh
 simp
 exact if_neg (by omega)
theorem dec1:dec 1=[49]:=by simp [dec,digs];rfl
theorem dec2:dec 2=[50]:=by simp [dec,digs];rfl
theorem dec3:dec 3=[51]:=by simp [dec,digs];rfl
theorem dec9:dec 9=[57]:=by simp [dec,digs];rfl
theorem Vd {k:Nat} (h:k<10):zG 12 (k:Rat):=by
 refine Dz.short (e:=1) ⟨?_,?_⟩ (by omega)
 . simp;omega
 simp
theorem zn7 {l:List UInt8} {q:Rat} (h:zh q=l) (hs:zG 12 q):zp l=some q/\zY l=0/\vS l=q:=by
 have h1:zp l=some q:=by rw [<- h];exact yv (Dz.short (zG.sz hs) (by omega))
 refine ⟨h1,?_,?_⟩
 . unfold zY;rw [h1];simp only;rw [if_pos hs]
 unfold vS;rw [h1];rfl
theorem num0:zY [48]=0/\vS [48]=0:=(zn7 (q:=((0:Nat):Rat)) (by rw [X6];exact vD) (Vd (by omega))).2
theorem zxs:zY [49]=0/\vS [49]=1:=(zn7 (q:=((1:Nat):Rat)) (by rw [X6];exact dec1) (Vd (by omega))).2
theorem zyi:zY [50]=0/\vS [50]=2:=(zn7 (q:=((2:Nat):Rat)) (by rw [X6];exact dec2) (Vd (by omega))).2
theorem num9:zY [57]=0/\vS [57]=9:=(zn7 (q:=((9:Nat):Rat)) (by rw [X6];exact dec9) (Vd (by omega))).2
theorem zzl:xi.P5:=by
 have h1:xi.P1:=by unfold Net.P1;decide
 have h2:xi.P2:=⟨h1,by decide⟩
 have h3:xi.P3:=⟨h2,by decide,by
  apply zN.2
  intro k hk
  have hk:k<2:=hk
  unfold Net.pipeErr
  rcases (show k=0\/k=1 by omega) with rfl | rfl
  . simp [xi,zxs.1,zxs.2,zyi.1,zyi.2,vr,zfv,yD,xh];grind
  . simp [xi,zxs.1,zxs.2,vr,zfv,yD,xh];grind⟩
 have h4:xi.P4:=⟨h3,by
  apply zN.2
  intro k hk
  have hk:k<2:=hk
  unfold Net.levelErr
  rcases (show k=0\/k=1 by omega) with rfl | rfl
  . simp [xi,num0.1]
  . simp [xi,num9.1]⟩
 exact ⟨h4,rfl⟩
theorem zyd:xi.err=0:=by
 refine (Net.err_end zzl).2 fun k hk=>?_
 have hk:k<3:=hk
 have h0:xg xi.pipes.length xi.pf xi.pt (Net.on xi.heads) 0:=.base ⟨⟨0,[48]⟩,by simp [xi],rfl⟩
 have h2:xg xi.pipes.length xi.pf xi.pt (Net.on xi.heads) 2:=.base ⟨⟨2,[57]⟩,by simp [xi],rfl⟩
 have h1:xg xi.pipes.length xi.pf xi.pt (Net.on xi.heads) 1:=.right (i:=0) (by decide) h0
 rcases (show k=0\/k=1\/k=2 by omega) with rfl | rfl | rfl
 . exact h0
 . exact h1
 . exact h2
theorem zwl:xw xi [[50],[49]]=0:=by
 unfold xw
 rw [if_neg (by decide)]
 apply zN.2
 intro k hk
 have hk:k<2:=hk
 unfold yP
 rcases (show k=0\/k=1 by omega) with rfl | rfl
 . simp [zyi.1,zyi.2];grind
 . simp [zxs.1,zxs.2];grind
theorem ztu {h:Nat->Rat} (hh:znz xi [[50],[49]] h):zh (h 0)=[48]/\zh (h 1)=[51]/\zh (h 2)=[57]:=by
 have e0:=hh 0 (by decide)
 have e1:=hh 1 (by decide)
 have e2:=hh 2 (by decide)
 have f0:Net.at_ xi.heads 0=some 0:=by simp [Net.at_,xi,num0.2]
 have f1:Net.at_ xi.heads 1=none:=by simp [Net.at_,xi]
 have f2:Net.at_ xi.heads 2=some 9:=by simp [Net.at_,xi,num9.2]
 rw [f0] at e0
 rw [f1] at e1
 rw [f2] at e2
 simp only at e0 e1 e2
 have ha:zx0 xi.nodes.length 1=true:=rfl
 rw [if_pos ha] at e1
 have hw:Net.at_ xi.wells 1=none:=rfl
 rw [hw] at e1
 have c0:zl [[50],[49]] 0=2:=zyi.2
 have c1:zl [[50],[49]] 1=1:=zxs.2
 have hf:yA xi.pipes.length xi.pf xi.pt (zl [[50],[49]]) h 1=2*(h 1 - h 0)+1*(h 1 - h 2):=by
  show yA 2 xi.pf xi.pt (zl [[50],[49]]) h 1=_
  rw [YH,YH,zaf]
  have p0:xi.pf 0=0:=rfl
  have p1:xi.pf 1=1:=rfl
  have q0:xi.pt 0=1:=rfl
  have q1:xi.pt 1=2:=rfl
  rw [p0,p1,q0,q1,c0,c1]
  simp
  grind
 rw [hf,e0,e2] at e1
 have h1:h 1=3:=by simp at e1;grind
 refine ⟨?_,?_,?_⟩
 . rw [e0];exact yO.2 rfl
 . rw [h1];exact (X6 3).trans dec3
 . rw [e2];exact (X6 9).trans dec9
def SamR (la lb:List (List UInt8)) (w:World) (iv:Value) (wr:World):Prop:=∃ i:Nat,i<=la.length/\iv= .int .i64 i/\Hid (la.take i=lb.take i)/\Hid (Below w.heap.size w wr)
theorem ztz (A B:Option Addr) (ca cb:Nat) (la lb:List (List UInt8)) (w:World) (hA:zK w w.heap.size 1 A la.length (la.map str)) (hB:zK w w.heap.size 1 B lb.length (lb.map str)) (h1:la.length<=1000) (h2:lb.length<=1000):
 Calls Tryz.prog 17 #[.slice A la.length ca,.slice B lb.length cb] w (vO w (.bool (decide (la=lb)))):=by
 have HA:=ze hA
 have HB:=ze hB
 have HW:=ze (zP w)
 obtain ⟨r,HR⟩:∃ r,Hid (decide (la=lb)=r):=⟨_,ze rfl⟩
 rw [HR.out]
 clear hA hB
 by_cases hl:la.length=lb.length
 rotate_left
 . have HF:Hid (r=false):=ze (by
    rw [<- HR.out,decide_eq_false_iff_not];intro e
    exact hl (by rw [e]))
   have hI:((la.length:Int) != (lb.length:Int))=true:=by rw [bne_iff_ne];omega
   clear hl
   go_enter Tryz.func17,Tryz.ntmps17
   go_wp2_with fail;go_ret;exact ⟨z0 HF.out,HW.out⟩
 have HL:=ze hl
 have hI:((la.length:Int) != (lb.length:Int))=false:=by rw [hl];simp
 clear hl
 go_enter Tryz.func17,Tryz.ntmps17
 go_wp2_with fail
 go_loopw [5] (SamR la lb w) (fun iv _=>la.length - (intOf iv).toNat)
 case atStart=>exact ⟨0,Nat.zero_le _,rfl,rfl,HW⟩
 case round=>
  clear HW;obtain ⟨i,hi,rfl,HE,HW⟩:=hrel
  by_cases hlt:i<la.length
  rotate_left
  . obtain rfl:i=la.length:=by omega
    have HF:Hid (r=true):=ze (by
     rw [<- HR.out,decide_eq_true_iff];have h:=HE.out;rw [List.take_length,HL.out,List.take_length] at h
     exact h)
    go_wp2_with fail;go_ret;exact ⟨z0 HF.out,HW.out⟩
  have hlb:i<lb.length:=by have:=HL.out;omega
  have hi1:(i:Int)<(la.length:Int):=by omega
  have hi2:(i:Int)<(lb.length:Int):=by omega
  obtain ⟨aa,ea,la1,qa⟩:∃ ad,A=some ad/\ad.block<wr.heap.size/\wr.cell? (ad.add i)=some (str la[i]):=by
   obtain ⟨ad,e,hb,hc⟩:=(HA.out.below HW.out).2 (by omega);exact ⟨ad,e,Nat.lt_of_lt_of_le hb HW.out.size,hc i _ (by simp [hlt])⟩
  obtain ⟨ab,eb,lb1,qb⟩:∃ ad,B=some ad/\ad.block<wr.heap.size/\wr.cell? (ad.add i)=some (str lb[i]):=by
   obtain ⟨ad,e,hb,hc⟩:=(HB.out.below HW.out).2 (by omega);exact ⟨ad,e,Nat.lt_of_lt_of_le hb HW.out.size,hc i _ (by simp [hlb])⟩
  subst ea;subst eb
  by_cases he:la[i]=lb[i]
  . have HNX:Hid (la.take (i+1)=lb.take (i+1)):=ze (by rw [List.take_succ_eq_append_getElem hlt,List.take_succ_eq_append_getElem hlb,HE.out,he])
    rw [he] at qa;have hs1:(lb[i] == lb[i])=true:=by simp
    have hs2:(lb[i] != lb[i])=false:=by simp
    clear he la1 lb1;generalize lb[i]=x at qa qb hs1 hs2;go_wp2_with fail
    go_quiet (fail)
    have hbB:=zw wr nq;replace HW:=eb_ HW hbB;clear hbB;generalize wr.drewN nq=WN at HW |-;clear nq;go_wp2_with fail;go_round
    case rel=>exact ⟨i+1,by omega,by go_num,HNX,HW⟩
    case measure=>simp [intOf];omega
  have HF:Hid (r=false):=ze (by
   rw [<- HR.out,decide_eq_false_iff_not];intro e;subst e
   exact he rfl)
  have hs1:(la[i] == lb[i])=false:=by simpa using he
  have hs2:(la[i] != lb[i])=true:=by simpa using he
  clear he la1 lb1;generalize la[i]=x at qa hs1 hs2;generalize lb[i]=y at qb hs1 hs2;go_wp2_with fail
  go_quiet (fail)
  have hbB:=zw wr nq;replace HW:=eb_ HW hbB;clear hbB;generalize wr.drewN nq=WN at HW |-;clear nq;go_wp2_with fail;go_ret;exact ⟨z0 HF.out,HW.out⟩
theorem Yl {w:World} {g size n:Nat} {t:TypeId} {cs:List Value} (h:Blk w g t cs.toArray) (hn:cs.length=n*size):zK w w.heap.size size (some ⟨g,0,none⟩) n cs:=by
 refine ⟨hn,fun _=>⟨_,rfl,h.lt,fun j u hu=>?_⟩⟩
 have e:(⟨g,0,none⟩:Addr).add j=⟨g,j,none⟩:=by
  unfold Addr.add
  by_cases hj:j=0
  . subst hj;rfl
  simp [hj]
 rw [e,h.cell j,List.getElem?_toArray]
 exact hu
def zyg (n:Net) (w:World) (e:Ending) (w' :World):Prop:=∃ v,e= .returned v/\Zw w' v n/\Below w.heap.size w w'
theorem zk4 (w:World):Calls Tryz.prog 16 #[] w (zyg xi w):=by
 have h1:Blk ((((w.alloc (.cells #[.slice (some ⟨w.heap.size+1,0,none⟩) 3 3,.slice (some ⟨w.heap.size+1+1,0,none⟩) 2 2,.slice (some ⟨w.heap.size+1+1+1,0,none⟩) 2 2,.slice none 0 0] 26)).alloc (.cells ([str [112,105,116],str [109,105,100],str [114,105,118,101,114]]:List Value).toArray 9)).alloc (.cells ([str [97],.int .i64 0,.int .i64 1,str [49],str [50],str [98],.int .i64 1,.int .i64 2,str [49],str [49]]:List Value).toArray 41)).alloc (.cells ([.int .i64 0,str [48],.int .i64 2,str [57]]:List Value).toArray 43)) w.heap.size 26 #[.slice (some ⟨w.heap.size+1,0,none⟩) 3 3,.slice (some ⟨w.heap.size+1+1,0,none⟩) 2 2,.slice (some ⟨w.heap.size+1+1+1,0,none⟩) 2 2,.slice none 0 0]:=(((Blk.new w _ _).alloc _).alloc _).alloc _
 have h2:Blk ((((w.alloc (.cells #[.slice (some ⟨w.heap.size+1,0,none⟩) 3 3,.slice (some ⟨w.heap.size+1+1,0,none⟩) 2 2,.slice (some ⟨w.heap.size+1+1+1,0,none⟩) 2 2,.slice none 0 0] 26)).alloc (.cells ([str [112,105,116],str [109,105,100],str [114,105,118,101,114]]:List Value).toArray 9)).alloc (.cells ([str [97],.int .i64 0,.int .i64 1,str [49],str [50],str [98],.int .i64 1,.int .i64 2,str [49],str [49]]:List Value).toArray 41)).alloc (.cells ([.int .i64 0,str [48],.int .i64 2,str [57]]:List Value).toArray 43)) (w.heap.size+1) 9 ([str [112,105,116],str [109,105,100],str [114,105,118,101,114]]:List Value).toArray:=by
  have h:=((Blk.new (w.alloc (.cells #[.slice (some ⟨w.heap.size+1,0,none⟩) 3 3,.slice (some ⟨w.heap.size+1+1,0,none⟩) 2 2,.slice (some ⟨w.heap.size+1+1+1,0,none⟩) 2 2,.slice none 0 0] 26)) 9 ([str [112,105,116],str [109,105,100],str [114,105,118,101,114]]:List Value).toArray).alloc (.cells ([str [97],.int .i64 0,.int .i64 1,str [49],str [50],str [98],.int .i64 1,.int .i64 2,str [49],str [49]]:List Value).toArray 41)).alloc (.cells ([.int .i64 0,str [48],.int .i64 2,str [57]]:List Value).toArray 43)
  simp only [World.size_alloc] at h
  exact h
 have h3:Blk ((((w.alloc (.cells #[.slice (some ⟨w.heap.size+1,0,none⟩) 3 3,.slice (some ⟨w.heap.size+1+1,0,none⟩) 2 2,.slice (some ⟨w.heap.size+1+1+1,0,none⟩) 2 2,.slice none 0 0] 26)).alloc (.cells ([str [112,105,116],str [109,105,100],str [114,105,118,101,114]]:List Value).toArray 9)).alloc (.cells ([str [97],.int .i64 0,.int .i64 1,str [49],str [50],str [98],.int .i64 1,.int .i64 2,str [49],str [49]]:List Value).toArray 41)).alloc (.cells ([.int .i64 0,str [48],.int .i64 2,str [57]]:List Value).toArray 43)) (w.heap.size+1+1) 41 ([str [97],.int .i64 0,.int .i64 1,str [49],str [50],str [98],.int .i64 1,.int .i64 2,str [49],str [49]]:List Value).toArray:=by
  have h:=(Blk.new ((w.alloc (.cells #[.slice (some ⟨w.heap.size+1,0,none⟩) 3 3,.slice (some ⟨w.heap.size+1+1,0,none⟩) 2 2,.slice (some ⟨w.heap.size+1+1+1,0,none⟩) 2 2,.slice none 0 0] 26)).alloc (.cells ([str [112,105,116],str [109,105,100],str [114,105,118,101,114]]:List Value).toArray 9)) 41 ([str [97],.int .i64 0,.int .i64 1,str [49],str [50],str [98],.int .i64 1,.int .i64 2,str [49],str [49]]:List Value).toArray).alloc (.cells ([.int .i64 0,str [48],.int .i64 2,str [57]]:List Value).toArray 43)
  simp only [World.size_alloc] at h
  exact h
 have h4:Blk ((((w.alloc (.cells #[.slice (some ⟨w.heap.size+1,0,none⟩) 3 3,.slice (some ⟨w.heap.size+1+1,0,none⟩) 2 2,.slice (some ⟨w.heap.size+1+1+1,0,none⟩) 2 2,.slice none 0 0] 26)).alloc (.cells ([str [112,105,116],str [109,105,100],str [114,105,118,101,114]]:List Value).toArray 9)).alloc (.cells ([str [97],.int .i64 0,.int .i64 1,str [49],str [50],str [98],.int .i64 1,.int .i64 2,str [49],str [49]]:List Value).toArray 41)).alloc (.cells ([.int .i64 0,str [48],.int .i64 2,str [57]]:List Value).toArray 43)) (w.heap.size+1+1+1) 43 ([.int .i64 0,str [48],.int .i64 2,str [57]]:List Value).toArray:=by
  have h:=Blk.new (((w.alloc (.cells #[.slice (some ⟨w.heap.size+1,0,none⟩) 3 3,.slice (some ⟨w.heap.size+1+1,0,none⟩) 2 2,.slice (some ⟨w.heap.size+1+1+1,0,none⟩) 2 2,.slice none 0 0] 26)).alloc (.cells ([str [112,105,116],str [109,105,100],str [114,105,118,101,114]]:List Value).toArray 9)).alloc (.cells ([str [97],.int .i64 0,.int .i64 1,str [49],str [50],str [98],.int .i64 1,.int .i64 2,str [49],str [49]]:List Value).toArray 41)) 43 ([.int .i64 0,str [48],.int .i64 2,str [57]]:List Value).toArray
  simp only [World.size_alloc] at h
  exact h
 have HW:Hid (Below w.heap.size w ((((w.alloc (.cells #[.slice (some ⟨w.heap.size+1,0,none⟩) 3 3,.slice (some ⟨w.heap.size+1+1,0,none⟩) 2 2,.slice (some ⟨w.heap.size+1+1+1,0,none⟩) 2 2,.slice none 0 0] 26)).alloc (.cells ([str [112,105,116],str [109,105,100],str [114,105,118,101,114]]:List Value).toArray 9)).alloc (.cells ([str [97],.int .i64 0,.int .i64 1,str [49],str [50],str [98],.int .i64 1,.int .i64 2,str [49],str [49]]:List Value).toArray 41)).alloc (.cells ([.int .i64 0,str [48],.int .i64 2,str [57]]:List Value).toArray 43))):=ze (ext (ext (ext (zg w _) (zg _ _)) (zg _ _)) (zg _ _))
 have r0:=h1.cell 0
 have r1:=h1.cell 1
 have r2:=h1.cell 2
 have r3:=h1.cell 3
 have H2:=ze (Yl (size:=1) (n:=3) h2 rfl)
 have H3:=ze (Yl (size:=5) (n:=2) h3 rfl)
 have H4:=ze (Yl (size:=2) (n:=2) h4 rfl)
 simp only [List.getElem?_toArray,List.getElem?_cons_zero,List.getElem?_cons_succ] at r0 r1 r2 r3
 clear h1 h2 h3 h4
 go_enter Tryz.func16,Tryz.ntmps16
 go_wp2_with fail
 generalize ((((w.alloc (.cells #[.slice (some ⟨w.heap.size+1,0,none⟩) 3 3,.slice (some ⟨w.heap.size+1+1,0,none⟩) 2 2,.slice (some ⟨w.heap.size+1+1+1,0,none⟩) 2 2,.slice none 0 0] 26)).alloc (.cells ([str [112,105,116],str [109,105,100],str [114,105,118,101,114]]:List Value).toArray 9)).alloc (.cells ([str [97],.int .i64 0,.int .i64 1,str [49],str [50],str [98],.int .i64 1,.int .i64 2,str [49],str [49]]:List Value).toArray 41)).alloc (.cells ([.int .i64 0,str [48],.int .i64 2,str [57]]:List Value).toArray 43))=WE at HW H2 H3 H4 r0 r1 r2 r3 |-
 refine bodyPost_ret (v:=.agg #[.slice (some ⟨w.heap.size+1,0,none⟩) 3 3,.slice (some ⟨w.heap.size+1+1,0,none⟩) 2 2,.slice (some ⟨w.heap.size+1+1+1,0,none⟩) 2 2,.slice none 0 0]) (by simp [results,Tryz.results16,go_sem,r0,r1,r2,r3]) rfl ?_
 refine ⟨_,rfl,⟨_,_,_,_,_,_,_,_,_,_,_,_,rfl,⟨_,_,rfl,by decide,by unfold maxLen;decide,by decide,H2.out,?_⟩,⟨_,_,rfl,by decide,by unfold maxLen;decide,by decide,H3.out,?_⟩,⟨_,_,rfl,by decide,by unfold maxLen;decide,by decide,H4.out,?_⟩,⟨_,_,rfl,by decide,by unfold maxLen;decide,by decide,zK.none_,?_⟩⟩,HW.out⟩
 . intro x hx;simp [xi] at hx;rcases hx with rfl | rfl | rfl<;>(unfold zV;simp)
 . intro x hx;simp [xi] at hx;rcases hx with rfl | rfl<;>(unfold zV;simp)
 . intro x hx;simp [xi] at hx;rcases hx with rfl | rfl<;>(unfold zV;simp)
 . intro x hx;simp [xi] at hx
theorem zyr:YK xi [[50],[49]]=0:=by
 unfold YK
 rw [if_neg (by rw [zyd];decide)]
 exact zwl
theorem ztr {w:World} {A:Option Addr} {n c:Nat} {l:List (List UInt8)} (h:zK w w.heap.size 1 A n (l.map str)) (hn:n=l.length) (hc:n<=c) (hm:c<=1000) (hs:∀ x∈l,zV x):yY w (.slice A n c) l:=by
 subst hn
 exact ⟨A,c,rfl,hc,by unfold maxLen;omega,by omega,h,hs⟩
theorem zek (w:World):Calls Tryz.prog 6 #[] w (vO w (.bool true)):=by
 go_enter Tryz.func6,Tryz.ntmps6
 go_wp2_with fail
 refine (zk4 _).mono ?_
 rintro e w1 ⟨v,rfl,hnet,hb1⟩
 have HNET:=ze hnet
 have HW:=ze hb1
 clear hnet hb1
 have hx:=zg w1 (.cells ([str [50],str [49]]:List Value).toArray 28)
 have hrd:=Yl (size:=1) (n:=2) (Blk.new w1 28 ([str [50],str [49]]:List Value).toArray) rfl
 have hh:=zkw v (.slice (some ⟨w1.heap.size,0,none⟩) 2 2) xi [[50],[49]] _ (HNET.out.below hx) (ztr (l:=[[50],[49]]) hrd rfl (by omega) (by omega) (by intro x hx;simp at hx;rcases hx with rfl | rfl<;>(unfold zV;simp))) (fun _=>⟨by decide,by decide⟩)
 have HW2:=ze (ext HW.out hx)
 clear hx hrd
 go_wp2_with fail
 refine hh.mono ?_
 rintro e w2 ⟨hb2,h | ⟨_,A,cap,h,rfl,hcap,hnh,_,hr⟩⟩
 . exact absurd zyr h.1
 . obtain ⟨f0,f1,f2⟩:=ztu hnh
   have e1:(row xi.nodes.length fun k=>str (zh (h k)))=([[48],[51],[57]]:List (List UInt8)).map str:=by
    show (row 3 fun k=>str (zh (h k)))=_
    unfold row
    simp [List.range_succ,f0,f1,f2]
   rw [e1] at hr;have HR:=ze hr;have HW3:=ze (ext HW2.out hb2);clear hh hb2 hnh hr hcap f0 f1 f2 e1 HNET;have hlen:xi.nodes.length=3:=rfl;rw [hlen] at HR |-;have hx:=zg w2 (.cells ([str [48],str [51],str [57]]:List Value).toArray 28);have hrd:=Yl (size:=1) (n:=3) (Blk.new w2 28 ([str [48],str [51],str [57]]:List Value).toArray) rfl;have hs:=ztz A (some ⟨w2.heap.size,0,none⟩) cap 3 [[48],[51],[57]] [[48],[51],[57]] _ ((HR.out.below hx).more hx.size) hrd (by decide) (by decide);have HW4:=ze (ext HW3.out hx);rw [decide_eq_true rfl] at hs;clear hx hrd hlen;go_wp2_with fail;refine hs.mono ?_;rintro e w3 ⟨rfl,hb3⟩;have HW5:=ze (ext HW4.out hb3);clear hb3 hs;go_wp2_with fail;go_ret;exact ⟨rfl,HW5.out⟩
end Go.Proofs.YtacfcmdlgebhgaaGreat
namespace Go.Proofs.YtacfcmdlgebhgaaGreat
def zpf (m:Nat) (A:Tab) (B:Nat):Prop:=∀ i,i<m->∀ c,c<=m->∃ z:Int,A i c=(z:Rat)/\z.natAbs<=B
def zof:Nat->Nat->Nat
 | 0,_=>1
 | m+1,B=>(m+1)*B*zof m (2*B*B)
theorem zer:∀ (m:Nat) {B C:Nat},B<=C->zof m B<=zof m C
 | 0,_,_,_=>Nat.le_refl _
 | m+1,B,C,h=>by
   unfold zof;exact Nat.mul_le_mul (Nat.mul_le_mul (Nat.le_refl _) h) (zer m (Nat.mul_le_mul (Nat.mul_le_mul (Nat.le_refl _) h) h))
theorem zrr:∀ (m e:Nat),m<=9->zof m (10 ^ e)<=10 ^ ((e+1)*(2 ^ m - 1))
 | 0,e,_=>by simp [zof]
 | m+1,e,h=>by
   unfold zof
   have h1:2*10 ^ e*10 ^ e<=10 ^ (2*e+1):=by
    rw [show 2*e+1=e+e+1 by omega,Nat.pow_succ,Nat.pow_add];generalize 10 ^ e=x;rw [Nat.mul_assoc,Nat.mul_comm 2];exact Nat.mul_le_mul (Nat.le_refl _) (by omega)
   have h2:=Nat.le_trans (zer m h1) (zrr m (2*e+1) (by omega))
   have h3:(m+1)*10 ^ e<=10 ^ (e+1):=by
    rw [Nat.pow_succ,Nat.mul_comm];exact Nat.mul_le_mul (Nat.le_refl _) (by omega)
   refine Nat.le_trans (Nat.mul_le_mul h3 h2) ?_;rw [<- Nat.pow_add];refine Nat.pow_le_pow_right (by omega) ?_;have h4:1<=2 ^ m:=Nat.one_le_two_pow;have h5:2 ^ (m+1) - 1=1+2*(2 ^ m - 1):=by rw [Nat.pow_succ];omega
   rw [h5,Nat.mul_add,Nat.mul_one,show 2*e+1+1=(e+1)*2 by omega,Nat.mul_assoc]
   omega
theorem zpn {m:Nat} {A:Tab} (h:zip (m+1) A):∃ p,p<m+1/\A p m≠0:=by
 apply Classical.byContradiction
 intro hno
 have h0:∀ p,p<m+1->A p m=0:=fun p hp=>Classical.byContradiction fun h3=>hno ⟨p,hp,h3⟩
 have:=h (fun c=>if c=m then 1 else 0) (fun i hi=>by
  rw [vH (j:=m) (by omega)]
  . rw [h0 i hi];grind
  intro c hc h1;rw [if_neg h1];grind) m (by omega)
 rw [if_pos rfl] at this
 exact absurd this (by grind)
theorem vG.swap {m k p:Nat} {A:Tab} {x:Nat->Rat} (hx:vG m A x) (hk:k<m) (hp:p<m):vG m (swapped A k p) x:=by
 intro i hi
 unfold swapped
 by_cases h1:i=k
 . simp only [h1,if_true];exact hx p hp
 by_cases h2:i=p
 rotate_left
 . simp only [h1,h2,if_false];exact hx i hi
 by_cases h3:p=k
 . exact absurd (h2.trans h3) h1
 simp only [h2,h3,if_true,if_false];exact hx k hk
theorem zpf.swap {m k p B:Nat} {A:Tab} (h:zpf m A B) (hk:k<m) (hp:p<m):zpf m (swapped A k p) B:=by
 intro i hi c hc
 unfold swapped
 by_cases h1:i=k
 . simp only [h1,if_true];exact h p hp c hc
 by_cases h2:i=p
 rotate_left
 . simp only [h1,h2,if_false];exact h i hi c hc
 by_cases h3:p=k
 . exact absurd (h2.trans h3) h1
 simp only [h2,h3,if_true,if_false];exact h k hk c hc
def zjd (A:Tab) (m:Nat):Tab:=fun i c=>A m m*A i (if c=m then m+1 else c) - A i m*A m (if c=m then m+1 else c)
theorem ziv {A:Tab} {m:Nat} (x:Nat->Rat) (i:Nat):yi m (fun c=>zjd A m i c*x c)=A m m*yi m (fun c=>A i c*x c) - A i m*yi m (fun c=>A m c*x c):=by
 rw [<- Xq, <- Xq, <- zbq]
 apply zJ
 intro c hc
 unfold zjd
 rw [if_neg (by omega)]
 grind
theorem zl0 {m B:Nat} {A:Tab} (h:zpf (m+1) A B):zpf m (zjd A m) (2*B*B):=by
 intro i hi c hc
 have hc' :(if c=m then m+1 else c)<=m+1:=by split<;>omega
 unfold zjd
 generalize (if c=m then m+1 else c)=d at hc'
 obtain ⟨z1,e1,b1⟩:=h m (by omega) m (by omega)
 obtain ⟨z2,e2,b2⟩:=h i (by omega) d hc'
 obtain ⟨z3,e3,b3⟩:=h i (by omega) m (by omega)
 obtain ⟨z4,e4,b4⟩:=h m (by omega) d hc'
 refine ⟨z1*z2 - z3*z4,by rw [e1,e2,e3,e4];push_cast;rfl,?_⟩
 have h1:=Nat.mul_le_mul b1 b2
 have h2:=Nat.mul_le_mul b3 b4
 rw [<- Int.natAbs_mul] at h1 h2
 rw [Nat.mul_assoc]
 omega
theorem zou {m:Nat} {A:Tab} (h:zip (m+1) A) (h0:A m m≠0):zip m (zjd A m):=by
 intro y hy c hc
 have:=h (fun c=>if c=m then -(yi m (fun c=>A m c*y c)) / A m m else y c) (fun i hi=>by
  rw [ym,if_pos rfl]
  have e:yi m (fun c=>A i c*(if c=m then -(yi m (fun c=>A m c*y c)) / A m m else y c))=yi m (fun c=>A i c*y c):=zJ fun k hk=>by rw [if_neg (by omega)]
  rw [e]
  rcases Nat.lt_or_ge i m with h1 | h1
  . have h2:=hy i h1
    rw [ziv] at h2
    grind
  . obtain rfl:i=m:=by omega
    grind) c (by omega)
 rw [if_neg (by omega)] at this
 exact this
theorem zkm {m:Nat} {A:Tab} {x:Nat->Rat} (h:vG (m+1) A x):vG m (zjd A m) x:=by
 intro i hi
 rw [ziv]
 unfold zjd
 rw [if_pos rfl]
 have h1:=h i (by omega)
 have h2:=h m (by omega)
 rw [ym] at h1 h2
 grind
theorem zbk:∀ (m B:Nat) (A:Tab) (x:Nat->Rat),0<B->zpf m A B->zip m A->vG m A x->∃ D:Int,D≠0/\D.natAbs<=zof m B/\∀ c,c<m->xq D (zof m B) (x c)
 | 0,B,A,x,hB,hW,hO,hS=>⟨1,by decide,by simp [zof],fun c hc=>absurd hc (by omega)⟩
 | m+1,B,A,x,hB,hW,hO,hS=>by
   obtain ⟨p,hp,hpv⟩:=zpn hO;have hO2:=hO.swapped (k:=m) (p:=p) (by omega) hp;have hS2:=hS.swap (k:=m) (p:=p) (by omega) hp;have hW2:=hW.swap (k:=m) (p:=p) (by omega) hp;have h0:swapped A m p m m≠0:=by unfold swapped;rw [if_pos rfl];exact hpv
   generalize swapped A m p=A at hO2 hS2 hW2 h0
   obtain ⟨D,d1,d2,d3⟩:=zbk m (2*B*B) (zjd A m) x (by
    rw [Nat.mul_assoc];exact Nat.mul_pos (by omega) (Nat.mul_pos hB hB)) (zl0 hW2) (zou hO2 h0) (zkm hS2)
   have hrow:=hS2 m (by omega);rw [ym] at hrow;have hW3:=fun c (hc:c<=m+1)=>hW2 m (by omega) c hc
   unfold zof;generalize hG:zof m (2*B*B)=G at d2 d3;obtain ⟨z,ez,bz⟩:=hW3 m (by omega)
   have hz:z≠0:=by
    intro e;rw [e] at ez;exact h0 ez
   have hmul:B*G<=(m+1)*B*G:=by
    rw [Nat.mul_assoc];exact Nat.le_mul_of_pos_left _ (by omega)
   refine ⟨D*z,Int.mul_ne_zero d1 hz,?_,fun c hc=>?_⟩
   . rw [Int.natAbs_mul]
     refine Nat.le_trans (Nat.mul_le_mul d2 bz) ?_;rw [Nat.mul_comm];exact hmul
   rcases Nat.lt_or_ge c m with h1 | h1
   . refine ((d3 c h1).scale z).mono (Nat.le_trans (Nat.mul_le_mul (Nat.le_refl _) bz) ?_)
     rw [Nat.mul_comm];exact hmul
   . obtain rfl:c=m:=by omega
     obtain ⟨y,ey,by_⟩:=hW3 (c+1) (by omega)
     have hsum:xq D (c*(B*G)) (yi c (fun k=>A c k*x k)):=xq.sum fun k hk=>by
      obtain ⟨u,eu,bu⟩:=hW3 k (by omega);obtain ⟨v,ev,bv⟩:=d3 k hk;refine ⟨u*v,by rw [eu];push_cast;rw [<- ev];grind,?_⟩;rw [Int.natAbs_mul];exact Nat.mul_le_mul bu bv
     have hy:xq D (B*G) ((y:Rat)):=⟨y*D,by push_cast;rfl,by rw [Int.natAbs_mul];exact Nat.mul_le_mul by_ d2⟩;obtain ⟨t,et,bt⟩:=hy.sub hsum;refine ⟨t,?_,?_⟩
     rotate_left
     . rw [Nat.mul_assoc,Nat.succ_mul];omega
     push_cast
     rw [<- et, <- ey, <- ez]
     grind
section
variable {N np:Nat} {pf pt:Nat->Nat} {c:Nat->Rat} {fx:Nat->Option Rat} {wl:Nat->Rat} {asked:Nat->Bool}
theorem zck {h:Nat->Rat} (hh:Yp N np pf pt c fx wl asked h) {k:Nat} (hk:k<N):zkt fx asked (fun i=>h ((xZ (zt fx asked) N).getD i 0)) k=h k:=by
 by_cases hF:zt fx asked k=true
 . rw [Ys _ _ hF,Vm _ hk hF]
 rw [zac _ _ hF]
 have h1:=hh k hk;unfold xL
 cases hx:fx k with
 | some v=>rw [hx] at h1;simp only at h1;rw [h1];rfl
 | none=>
   rw [hx] at h1;simp only at h1;rw [if_neg (fun e=>hF ((vj fx asked).2 ⟨hx,e⟩))] at h1;rw [h1];rfl
theorem zk1 {h:Nat->Rat} (hp:YN N np pf pt c) (hh:Yp N np pf pt c fx wl asked h):vG (yS (zt fx asked) N) (ZD pf pt c fx wl asked N np) (fun i=>h ((xZ (zt fx asked) N).getD i 0)):=by
 rw [Xk]
 intro i hi
 obtain ⟨m1,m2,m3⟩:=Z2 _ hi
 rw [zau pf pt c fx wl asked hp _ hi np (Nat.le_refl _)]
 rw [zjt (h:=h) (fun j hj=>⟨zck hh (hp.from_lt j hj),zck hh (hp.to_lt j hj)⟩)]
 have h1:=hh _ m1
 have h2:=(vj fx asked).1 m2
 rw [h2.1] at h1
 simp only at h1
 rw [if_pos h2.2] at h1
 rw [h1];grind
theorem zk8 {m X:Nat} {A:Tab} {x:Nat->Rat} (h:zqm m A X X) (hO:zip m A) (hS:vG m A x):∃ D:Int,D≠0/\D.natAbs<=zof m (X+1)/\∀ c,c<m->xq D (zof m (X+1)) (x c):=by
 obtain ⟨M,s,h⟩:=h
 have hrow:∀ (y:Nat->Rat) i,i<m->yi m (fun c=>((M i c:Int):Rat)*y c)=(s i:Rat)*yi m (fun c=>A i c*y c):=by
  intro y i hi
  rw [<- Xq]
  apply zJ
  intro c hc
  rw [<- ((h i hi).2.2 c (by omega)).1];grind
 refine zbk m (X+1) (fun i c=>((M i c:Int):Rat)) x (by omega) (fun i hi c hc=>⟨M i c,rfl,by have:=((h i hi).2.2 c hc).2;omega⟩) (fun y hy=>hO y fun i hi=>?_) (fun i hi=>?_)
 rotate_left
 . rw [hrow x i hi,hS i hi]
   show _=((M i m:Int):Rat)
   rw [<- ((h i hi).2.2 m (Nat.le_refl _)).1];grind
 have h1:=hy i hi
 rw [hrow y i hi] at h1;have:=Zx (h i hi).1
 rcases Rat.mul_eq_zero.1 h1 with h2 | h2
 . exact absurd h2 this
 . exact h2
variable (h:xP N np pf pt c fx wl asked)
include h
theorem xP.common {v:Nat->Rat} (hh:Yp N np pf pt c fx wl asked v):xB N v (201*(2 ^ yS (zt fx asked) N - 1)+12*N):=by
 have h1:=zk1 h.piped hh
 have hZ:=h.elim.1.2.2.1
 obtain ⟨X,x1,x2⟩:=hZ
 obtain ⟨D,d1,d2,d3⟩:=zk8 x2 (zn4 pf pt c fx wl asked h.piped h.tied) h1
 have hX:X+1<=10 ^ 200:=by
  rw [show 200*2 ^ 0=200 by rfl] at x1
  have:(2:Nat)<=10 ^ 200:=Nat.le_trans (by omega:2<=10 ^ 1) (Nat.pow_le_pow_right (by omega) (by omega))
  omega
 have hG:=Nat.le_trans (zer _ hX) (zrr (yS (zt fx asked) N) 200 (by have:=h.rank_le;omega))
 have hC:xB (yS (zt fx asked) N) (fun i=>v ((xZ (zt fx asked) N).getD i 0)) (201*(2 ^ yS (zt fx asked) N - 1)):=
  ⟨D,d1,Nat.le_trans d2 hG,fun k hk=>(d3 k hk).mono hG⟩
 obtain ⟨T,t1,t2,t3⟩:=zph (fx:=fx) (asked:=asked) hC h.fd
 exact ⟨T,t1,t2,fun k hk=>by
  have:=t3 k hk
  rw [zck hh hk] at this
  exact this⟩
end
def zik (N np:Nat) (c h:Nat->Rat) (S:Int) (F:Nat):Prop:=S≠0/\S.natAbs<=10 ^ F/\∀ i,i<np->∀ x,x<N->∀ y,y<N->xq S (10 ^ (F+1)) (c i*(h x - h y))
theorem znm {N np E:Nat} {c h:Nat->Rat} (hc:∀ i,i<np->Dz 12 (c i)) (hnp:np<=9) (hC:xB N h E):∃ S,zik N np c h S (E+108):=by
 obtain ⟨T,t1,t2,t3⟩:=hC
 obtain ⟨p1,p2⟩:=XG hc
 have hp:10 ^ (12*np)<=10 ^ 108:=Nat.pow_le_pow_right (by omega) (by omega)
 refine ⟨(vT np (fun j=>(c j).den):Int)*T,Int.mul_ne_zero (by omega) t1,?_,fun i hi x hx y hy=>?_⟩
 . rw [Int.natAbs_mul,Int.natAbs_natCast,Nat.add_comm,Nat.pow_add]
   exact Nat.mul_le_mul (Nat.le_trans p1 hp) t2
 refine ((xq.prod hc hi).mul ((t3 x hx).sub (t3 y hy))).mono ?_
 rw [show E+108+1=108+(E+1) by omega,Nat.pow_add,Nat.pow_succ];exact Nat.mul_le_mul hp (by omega)
section
variable {N np F:Nat} {pf pt:Nat->Nat} {c h:Nat->Rat} {S:Int}
theorem zik.short (t:zik N np c h S F) (hF:F<49990) {i x y:Nat} (hi:i<np) (hx:x<N) (hy:y<N):zG 50000 (c i*(h x - h y)):=by
 obtain ⟨t1,t2,t3⟩:=t
 exact Dz.short (e:=F+1) ((t3 i hi x hx y hy).sz t1 (Nat.le_refl _) (Nat.le_trans t2 (Nat.pow_le_pow_right (by omega) (by omega)))) (by omega)
theorem zik.flow (t:zik N np c h S F) (hp:YN N np pf pt c) (hnp:np<=9) (k:Nat) {n:Nat} (hn:n<=np):xq S (10 ^ (F+3)) (yA n pf pt c h k):=by
 obtain ⟨t1,t2,t3⟩:=t
 have h1:xq S (n*(10 ^ (F+1)+10 ^ (F+1))) (yA n pf pt c h k):=xq.sum fun i hi=>by
  have e1:=t3 i (by omega) _ (hp.from_lt i (by omega)) _ (hp.to_lt i (by omega))
  have e2:=t3 i (by omega) _ (hp.to_lt i (by omega)) _ (hp.from_lt i (by omega))
  refine xq.add ?_ ?_
  . split
    . exact e1
    exact xq.zero _ _
  split
  . exact e2
  exact xq.zero _ _
 refine h1.mono ?_
 rw [show F+3=F+1+2 by omega,Nat.pow_add (m:=F+1)]
 generalize 10 ^ (F+1)=Y
 have:n*(Y+Y)<=9*(Y+Y):=Nat.mul_le_mul (by omega) (Nat.le_refl _)
 omega
theorem zik.flow_short (t:zik N np c h S F) (hF:F<49990) (hp:YN N np pf pt c) (hnp:np<=9) (k:Nat) {n:Nat} (hn:n<=np):zG 50000 (yA n pf pt c h k):=
 Dz.short (e:=F+3) ((t.flow hp hnp k hn).sz t.1 (Nat.le_refl _) (Nat.le_trans t.2.1 (Nat.pow_le_pow_right (by omega) (by omega)))) (by omega)
end
section
variable {N np:Nat} {pf pt:Nat->Nat} {c:Nat->Rat} {fx:Nat->Option Rat} {wl:Nat->Rat} {asked:Nat->Bool}
theorem xB.more {n E F:Nat} {h:Nat->Rat} (hc:xB n h E) (hE:E<=F):xB n h F:=by
 obtain ⟨T,t1,t2,t3⟩:=hc
 have hp:10 ^ E<=10 ^ F:=Nat.pow_le_pow_right (by omega) hE
 exact ⟨T,t1,Nat.le_trans t2 hp,fun k hk=>(t3 k hk).mono hp⟩
theorem xP.commonE (h:xP N np pf pt c fx wl asked) {v:Nat->Rat} (hh:Yp N np pf pt c fx wl asked v):xB N v 12735:=by
 refine (h.common hh).more ?_
 have h1:=h.rank_le
 have h2:=h.hN
 have h3:2 ^ yS (zt fx asked) N<=2 ^ 6:=Nat.pow_le_pow_right (by omega) h1
 omega
theorem xB.diff {n E:Nat} {h:Nat->Rat} (hc:xB n h E) (hE:E<49990) {x y:Nat} (hx:x<n) (hy:y<n):zG 50000 (h x - h y):=by
 obtain ⟨T,h1,h2,h3⟩:=hc
 refine Dz.short (e:=E+1) (((h3 x hx).sub (h3 y hy)).sz h1 ?_ (Nat.le_trans h2 (Nat.pow_le_pow_right (by omega) (by omega)))) (by omega)
 rw [Nat.pow_succ];omega
end
end Go.Proofs.YtacfcmdlgebhgaaGreat
