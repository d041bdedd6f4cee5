/- Parts of the proof: memory, numbers, walks of the functions that are called. -/
import Derived.Deep.RegionHeld
import Derived.Test.YtkmcmmcencdcpaaGreatDoorMt18
set_option linter.unusedVariables false
set_option linter.unusedSimpArgs false
namespace Go.Proofs.YtkmcmmcencdcpaaGreatDoor
open Go.RowKit
section
variable {P:Program} {ops:Array Oper} {Q:Exit->Act->World->Prop} {md:Region.Mode} {S:World->Prop}
def zlb (P:Program) (md:Region.Mode) (ops:Array Oper) (Q:Exit->Act->World->Prop) (S:World->Prop) (n:Nat) (L:Array Bool->Act->World->Prop):Nat->Array Bool->Act->World->Prop
 | 0,listed,a,w=>L listed a w
 | f+1,listed,a,w=>Region.ready md ops listed≠[]/\∀ i∈Region.ready md ops listed,i<n/\wpOp P ops Q i (fun a' w' =>S w' /\zlb P md ops Q S n L f (listed.setIfInBounds i true) a' w') a w
theorem Yd {n g:Nat} {L:Array Bool->Act->World->Prop} (hL:∀ listed a w,L listed a w->wpAny P md ops Q g listed a w):
 ∀ (f:Nat) (listed:Array Bool) (a:Act) (w:World),zlb P md ops Q S n L f listed a w->wpAny P md ops Q (f+g) listed a w
 | 0,listed,a,w,h=>by rw [Nat.zero_add];exact hL _ _ _ h
 | f+1,listed,a,w,h=>by
   rw [show f+1+g=(f+g)+1 by omega];exact ⟨fun h0=>absurd h0 h.1,fun i hi=>wpOp_mono (fun a' w' h' =>Yd hL f _ a' w' h'.2) (h.2 i hi).2⟩
theorem zga {n i:Nat} {oi:Oper} {v:Value} {L:Array Bool->Act->World->Prop} (hi:ops[i]?=some oi) (hsel:∀ (j:Nat) (o:Oper) cs b,ops[j]?=some o->o.op≠ .select cs b)
 (hQ:∀ c a w,Q (.panic c) (a.put oi.dst v) w->Q (.panic c) a w)
 (hs:Region.sinkB md ops n=true) (hc:Region.chainB md ops n=true) (hn:n<ops.size) (hin:i<n) (hdone:∀ listed a w,L listed a w->∀ j∈Region.ready md ops listed,n<=j):
 ∀ (f:Nat) (listed:Array Bool) (a:Act) (w:World),HeadInv md ops n listed->
  (∀ j oj,ops[j]?=some oj->j≠i->listed.getD j true=false->(∀ e∈oj.after,Region.binds md e=true->e.on≠i)->oi.apart ops oj=true)->
  i∈Region.ready md ops listed->YieldsIf P ops S oi v a->S w->
  zlb P md ops Q S n L f (listed.setIfInBounds i true) (a.put oi.dst v) w->zlb P md ops Q S n L (f+1) listed a w:=by
 intro f
 induction f with
 | zero=>
   intro listed a w inv _ hr hy hS H;have hun:=(mem_ready.1 hr).1;refine ⟨fun h=>(by rw [h] at hr;cases hr),fun j hj=>?_⟩
   have hjn:j<n:=by
    rcases Nat.lt_or_ge j n with h | h
    . exact h
    . exact absurd hj (tail_waits hs hc hn inv _ i rfl hin hun j h)
   refine ⟨hjn,?_⟩
   by_cases hji:j=i
   . subst hji;exact hy.wpOp hi hS ⟨hS,H⟩
   . have:=hdone _ _ _ H j (ready_mono hj hji)
     omega
 | succ f ih=>
   intro listed a w inv hfree hr hy hS H;have hun:=(mem_ready.1 hr).1;refine ⟨fun h=>(by rw [h] at hr;cases hr),fun j hj=>?_⟩
   have hjn:j<n:=by
    rcases Nat.lt_or_ge j n with h | h
    . exact h
    . exact absurd hj (tail_waits hs hc hn inv _ i rfl hin hun j h)
   refine ⟨hjn,?_⟩
   by_cases hji:j=i
   . subst hji;exact hy.wpOp hi hS ⟨hS,H⟩
   . have h1:=(H.2 j (ready_mono hj hji)).2
     obtain ⟨hjun,oj,hoj,hall⟩:=mem_ready.1 hj
     have hnot:∀ e∈oj.after,Region.binds md e=true->e.on≠i:=fun e he hb heq=>by
      have h2:=hall e he hb;rw [heq,getD_both hun] at h2
      cases h2
     have h2:=wpOp_putIf hoj (hfree j oj hoj hji hjun hnot) (fun cs b=>hsel i oi cs b hi) (fun cs b=>hsel j oj cs b hoj) hQ hy h1;refine wpOp_mono (fun a' w' h3=>⟨h3.2.1,ih (listed.setIfInBounds j true) a' w' (inv.set hj hjn) (fun k ok hk hki hun2 hno=>?_) (ready_mono hr (Ne.symm hji)) h3.1 h3.2.1 ?_⟩) h2
     . refine hfree k ok hk hki ?_ hno
       by_cases hjk:j=k
       . subst hjk;exact hjun
       . rw [_root_.Go.getD_set_ne true hjk] at hun2;exact hun2
     . rw [Array.setIfInBounds_comm _ _ hji]
       exact h3.2.2
end
section
variable {P:Program} {l:List Oper} {Q:Exit->Act->World->Prop} {md:Region.Mode} {S:World->Prop} {n:Nat}
def zdt (md:Region.Mode) (ops:Array Oper) (n:Nat):Bool:=Region.noSelect ops && Region.sinkB md ops n && Region.chainB md ops n && decide (n<ops.size)
def zs0 (P:Program) (md:Region.Mode) (l:List Oper) (Q:Exit->Act->World->Prop) (n:Nat) (listed:Array Bool) (a:Act) (w:World):Prop:=
 Region.seqB md l.toArray (l.toArray.size - n) n listed=true/\wpList P l.toArray Q (l.drop n) a w
def HH (P:Program) (md:Region.Mode) (l:List Oper) (Q:Exit->Act->World->Prop) (S:World->Prop) (n f:Nat) (listed:Array Bool) (a:Act) (w:World):Prop:=
 HeadInv md l.toArray n listed->zdt md l.toArray n=true->zlb P md l.toArray Q S n (zs0 P md l Q n) f listed a w
theorem HH.take (i:Nat) {oi:Oper} {v:Value} {f:Nat} {listed:Array Bool} {a:Act} {w:World} (hi:l.toArray[i]?=some oi) (hf:Region.free md l.toArray listed i=true)
 (hr:(Region.ready md l.toArray listed).contains i=true) (hin:decide (i<n)=true) (hQ:∀ c a w,Q (.panic c) (a.put oi.dst v) w->Q (.panic c) a w) (hy:YieldsIf P l.toArray S oi v a) (hS:S w)
 (h:HH P md l Q S n f (listed.setIfInBounds i true) (a.put oi.dst v) w):HH P md l Q S n (f+1) listed a w:=fun inv hB=>by
 have hB' :=hB
 unfold zdt at hB'
 simp only [Bool.and_eq_true,decide_eq_true_eq] at hB' hin
 obtain ⟨⟨⟨hsel,hs⟩,hc⟩,hn⟩:=hB'
 have hr' :i∈Region.ready md l.toArray listed:=by simpa using hr
 exact zga hi (Region.noSelect_spec hsel) hQ hs hc hn hin (fun listed' a' w' hL=>seqB_ready hL.1) f listed a w inv (Region.free_spec hi hf) hr' hy hS (h (inv.set hr' hin) hB)
theorem HH.tk (i:Nat) {oi:Oper} {v:Value} {b:Act} {f:Nat} {listed:Array Bool} {a:Act} {w:World} (h:HH P md l Q S n f (listed.setIfInBounds i true) b w)
 (hi:l.toArray[i]?=some oi:=by rfl) (hf:Region.free md l.toArray listed i=true:=by kernel_rfl) (hr:(Region.ready md l.toArray listed).contains i=true:=by kernel_rfl) (hin:decide (i<n)=true:=by kernel_rfl)
 (hQ:∀ c a w,Q (.panic c) (a.put oi.dst v) w->Q (.panic c) a w:=by exact fun _ _ _ h=>h) (hg:Region.wanted oi (yielded l.toArray a.tmps)=true:=by rfl)
 (hy:∀ w,S w->(execOp a.eval oi).run P w= .ok (.value v) w:=by (intro w9 hSw;(try dsimp only at hSw);go_split_ands;go_simp;try with_reducible rfl)) (hS:S w:=by assumption)
 (hb:a.put oi.dst v=b:=by (simp only [Act.put,List.getElem_toArray,List.getElem_cons_succ,List.getElem_cons_zero,List.setIfInBounds_toArray,List.set_cons_zero,List.set_cons_succ];rfl)):HH P md l Q S n (f+1) listed a w:=by
 subst hb
 exact HH.take i hi hf hr hin hQ (Or.inl ⟨hg,hy⟩) hS h
theorem HH.sk (i:Nat) {oi:Oper} {b:Act} {f:Nat} {listed:Array Bool} {a:Act} {w:World} (h:HH P md l Q S n f (listed.setIfInBounds i true) b w)
 (hi:l.toArray[i]?=some oi:=by rfl) (hf:Region.free md l.toArray listed i=true:=by kernel_rfl) (hr:(Region.ready md l.toArray listed).contains i=true:=by kernel_rfl) (hin:decide (i<n)=true:=by kernel_rfl)
 (hQ:∀ c a w,Q (.panic c) (a.put oi.dst undef) w->Q (.panic c) a w:=by exact fun _ _ _ h=>h) (hg:Region.wanted oi (yielded l.toArray a.tmps)=false:=by rfl)
 (hS:S w:=by assumption)
 (hb:a.put oi.dst undef=b:=by (simp only [Act.put,List.getElem_toArray,List.getElem_cons_succ,List.getElem_cons_zero,List.setIfInBounds_toArray,List.set_cons_zero,List.set_cons_succ];rfl)):HH P md l Q S n (f+1) listed a w:=by
 subst hb
 exact HH.take i hi hf hr hin hQ (Or.inr ⟨hg,rfl⟩) hS h
def yO (P:Program) (md:Region.Mode) (l:List Oper) (Q:Exit->Act->World->Prop) (S:World->Prop) (n f:Nat) (listed:Array Bool) (a:Act) (w:World) (rs:List Nat):Prop:=
 ∀ i∈rs,wpOp P l.toArray Q i (fun a' w' =>S w' /\HH P md l Q S n f (listed.setIfInBounds i true) a' w') a w
theorem yO.nil {f:Nat} {listed:Array Bool} {a:Act} {w:World}:yO P md l Q S n f listed a w []:=fun _ h=>by cases h
theorem yO.cons {f:Nat} {listed:Array Bool} {a:Act} {w:World} {i:Nat} {o:Oper} {rs:List Nat} (ho:l.toArray[i]?=some o)
 (h:∀ K' :Act->World->Prop,Shut (∀ a w,S w->(S w->HH P md l Q S n f (listed.setIfInBounds i true) a w)->K' a w)->if Region.wanted o (yielded l.toArray a.tmps)=true then Oper.wp P o a w K' Q else K' (a.put o.dst undef) w)
 (hs:yO P md l Q S n f listed a w rs):yO P md l Q S n f listed a w (i :: rs):=fun j hj=>by
 rcases List.mem_cons.1 hj with rfl | hj
 . exact wpOp_step ho (fun K' hK=>h K' (fun a w hS hW=>hK a w ⟨hS,hW hS⟩))
 . exact hs j hj
theorem HH.ready {rs:List Nat} {f:Nat} {listed:Array Bool} {a:Act} {w:World} (hr:Region.ready md l.toArray listed=rs) (hne:rs≠[]) (hn:(rs.all fun i=>decide (i<n))=true)
 (h:yO P md l Q S n f listed a w rs):HH P md l Q S n (f+1) listed a w:=fun inv hB=>by
 subst hr
 refine ⟨hne,fun i hi=>?_⟩
 have hin:i<n:=by have:=List.all_eq_true.1 hn i hi;simpa using this
 exact ⟨hin,wpOp_mono (fun a' w' h' =>⟨h'.1,h'.2 (inv.set hi hin) hB⟩) (h i hi)⟩
theorem HH.rd (i:Nat) {o:Oper} {f:Nat} {listed:Array Bool} {a:Act} {w:World}
 (h:∀ K' :Act->World->Prop,Shut (∀ a w,S w->(S w->HH P md l Q S n f (listed.setIfInBounds i true) a w)->K' a w)->if Region.wanted o (yielded l.toArray a.tmps)=true then Oper.wp P o a w K' Q else K' (a.put o.dst undef) w)
 (ho:l.toArray[i]?=some o:=by rfl) (hr:Region.ready md l.toArray listed=[i]:=by kernel_rfl) (hin:([i].all fun i=>decide (i<n))=true:=by kernel_rfl):HH P md l Q S n (f+1) listed a w:=
 HH.ready hr (by simp) hin (yO.cons ho h yO.nil)
theorem HH.done {listed:Array Bool} {a:Act} {w:World} (hB:Region.seqB md l.toArray (l.toArray.size - n) n listed=true) (h:wpList P l.toArray Q (l.drop n) a w):HH P md l Q S n 0 listed a w:=fun _ _=>⟨hB,h⟩
theorem yA {id:Nat} {a:Act} {w:World} (n:Nat) (hm:P.follows .mixedOrders=true) (hB:zdt .any l.toArray n=true) (hS:S w.drew)
 (h:S w.drew->HH P .any l Q S n n (Array.replicate l.toArray.size false) a w.drew):(Code.region id l.toArray true).wp P Q a w:=by
 have hn:n<l.toArray.size:=by
  have hB' :=hB
  unfold zdt at hB'
  simp only [Bool.and_eq_true,decide_eq_true_eq] at hB'
  exact hB'.2
 have inv0:HeadInv .any l.toArray n (Array.replicate l.toArray.size false):=
  ⟨by simp,fun j oj _ hl=>(by rw [getD_replicate_false] at hl;cases hl),fun t _ ht=>getD_in (by simpa using ht) (getD_replicate_false _ _)⟩
 refine wp_region_any hm ?_
 have hdl:(l.drop n).length=l.toArray.size - n:=by simp
 have:=Yd (Q:=Q) (g:=l.toArray.size - n) (fun listed a' w' hL=>by
  have:=wpAny_of_seq (md:=.any) (Q' :=Q) (l.drop n) n listed a' w' (fun j=>by simp [List.getElem?_drop]) (by rw [hdl];exact hL.1) hL.2
  rwa [hdl] at this) _ _ _ _ (h hS inv0 hB)
 rw [show n+(l.toArray.size - n)=l.toArray.size by omega] at this
 exact this
def zat (P:Program) (S:World->Prop) (R:Act->Prop):List Oper->Act->Prop
 | [],a=>R a
 | o :: rest,a=>∃ v,(∀ w,S w->(execOp a.eval o).run P w= .ok (.value v) w)/\zat P S R rest (a.put o.dst v)
theorem zM {R:Act->Prop} {a:Act} (h:R a):zat P S R [] a:=h
theorem zW {R:Act->Prop} {o:Oper} {rest:List Oper} {a b:Act} {v:Value} (h:zat P S R rest b)
 (hv:∀ w,S w->(execOp a.eval o).run P w= .ok (.value v) w:=by (intro w9 hSw;(try dsimp only at hSw);go_split_ands;go_simp;try with_reducible rfl))
 (hb:a.put o.dst v=b:=by (simp only [Act.put,List.setIfInBounds_toArray,List.set_cons_zero,List.set_cons_succ];rfl)):zat P S R (o :: rest) a:=by
 subst hb
 exact ⟨v,hv,h⟩
theorem V0 {d:Nat} {w:World} (hQ:∀ k v c a w,Q (.panic c) (Act.put a (some k) v) w->Q (.panic c) a w) (hS:S w):
 ∀ (l' :List Oper) (k:Nat) (listed:Array Bool) (a:Act),(∀ j,j<l'.length->l'[j]?=l.toArray[k+j]?)->zrn md l.toArray l'.length k listed=true->k+l'.length<=n->
  zat P S (fun a' =>HH P md l Q S n d (zsi l'.length k listed) a' w) l' a->HH P md l Q S n (l'.length+d) listed a w
 | [],k,listed,a,_,_,_,h=>by
   rw [List.length_nil,Nat.zero_add];exact h
 | o :: l',k,listed,a,hl,hB,hk,h=>by
   have h0:l.toArray[k]?=some o:=by simpa using (hl 0 (by simp)).symm
   simp only [List.length_cons,zrn,Bool.and_eq_true,h0] at hB;obtain ⟨⟨⟨hr,hf⟩,hg⟩,hB'⟩:=hB;obtain ⟨v,hv,hK⟩:=h;rw [List.length_cons,show l'.length+1+d=(l'.length+d)+1 by omega];refine HH.take k h0 hf hr (by simp at hk;simp;omega) (fun c a w h=>?_) (.inl ⟨?_,hv⟩) hS ?_
   . cases hd:o.dst with
     | none=>rw [hd] at h;exact h
     | some k=>rw [hd] at h;exact hQ k _ c a w h
   . cases hgd:o.guard with
     | none=>simp [Region.wanted,hgd]
     | some _=>rw [hgd] at hg;simp at hg
   . exact V0 hQ hS l' (k+1) _ _ (fun j hj=>by have:=hl (j+1) (by simp;omega);simpa [Nat.add_assoc,Nat.add_comm 1 j] using this) hB' (by simp at hk;omega) hK
theorem zr {id:Nat} {a:Act} {w:World} (s d n:Nat) (hn:s+d=n) (hm:P.follows .mixedOrders=true) (hB:zdt .any l.toArray n=true) (hP:zrn .any l.toArray s 0 (Array.replicate l.toArray.size false)=true)
 (hl:(l.take s).length=s) (hS:S w.drew) (hQ:∀ k v c a w,Q (.panic c) (Act.put a (some k) v) w->Q (.panic c) a w)
 (h:S w.drew->zat P S (fun a' =>HH P .any l Q S n d (zsi s 0 (Array.replicate l.toArray.size false)) a' w.drew) (l.take s) a):(Code.region id l.toArray true).wp P Q a w:=by
 refine yA n hm hB hS (fun hS=>?_)
 have:=V0 (P:=P) (l:=l) (S:=S) (md:=.any) (n:=n) (d:=d) hQ hS (l.take s) 0 (Array.replicate l.toArray.size false) a (fun j hj=>by
  rw [hl] at hj
  rw [List.getElem?_take,if_pos hj]
  simp) (by rw [hl];exact hP) (by rw [hl];omega) (by rw [hl];exact h hS)
 rw [hl,hn] at this
 exact this
end
section
variable {P:Program} {l:List Oper} {Q:Exit->Act->World->Prop} {S:World->Prop} {n:Nat}
theorem zam {a:Act} {w:World} (n:Nat) (hB:zdt .any l.toArray n=true)
 (h:HH P .any l Q S n n (Array.replicate l.toArray.size false) a w):wpAny P .any l.toArray Q l.toArray.size (Array.replicate l.toArray.size false) a w:=by
 have hn:n<l.toArray.size:=by
  have hB' :=hB
  unfold zdt at hB'
  simp only [Bool.and_eq_true,decide_eq_true_eq] at hB'
  exact hB'.2
 have inv0:HeadInv .any l.toArray n (Array.replicate l.toArray.size false):=
  ⟨by simp,fun j oj _ hl=>(by rw [getD_replicate_false] at hl;cases hl),fun t _ ht=>getD_in (by simpa using ht) (getD_replicate_false _ _)⟩
 have hdl:(l.drop n).length=l.toArray.size - n:=by simp
 have:=Yd (Q:=Q) (g:=l.toArray.size - n) (fun listed a' w' hL=>by
  have:=wpAny_of_seq (md:=.any) (Q' :=Q) (l.drop n) n listed a' w' (fun j=>by simp [List.getElem?_drop]) (by rw [hdl];exact hL.1) hL.2
  rwa [hdl] at this) _ _ _ _ (h inv0 hB)
 rw [show n+(l.toArray.size - n)=l.toArray.size by omega] at this
 exact this
theorem Yk {id:Nat} {a:Act} {w:World} (x j s d n:Nat) (hn:s+d=n) (hm:P.follows .mixedOrders=true) {ox:Oper} {t:Operand} {ix:Nat} (hox:l[x]?=some ox) (hop:ox.op= .extract t ix) (hg:ox.guard=none)
 (hF:zlq .any l.toArray x j=true) (hB:zdt .any (VB x j l).toArray n=true) (hP:zrn .any (VB x j l).toArray s 0 (Array.replicate (VB x j l).toArray.size false)=true)
 (hl:((VB x j l).take s).length=s) (hS:S w.drew) (hQ:∀ k v c a w,Q (.panic c) (Act.put a (some k) v) w->Q (.panic c) a w) (hQ0:∀ v c a w,Q (.panic c) (Act.put a none v) w->Q (.panic c) a w)
 (h:S w.drew->zat P S (fun a' =>HH P .any (VB x j l) Q S n d (zsi s 0 (Array.replicate (VB x j l).toArray.size false)) a' w.drew) ((VB x j l).take s) a):(Code.region id l.toArray true).wp P Q a w:=by
 refine wp_region_any hm ?_
 have h2:=V0 (P:=P) (l:=VB x j l) (S:=S) (md:=.any) (n:=n) (d:=d) hQ hS ((VB x j l).take s) 0 (Array.replicate (VB x j l).toArray.size false) a (fun j' hj=>by
  rw [hl] at hj
  rw [List.getElem?_take,if_pos hj]
  simp) (by rw [hl];exact hP) (by rw [hl];omega) (by rw [hl];exact h hS)
 rw [hl,hn] at h2
 have h3:=zam n hB h2
 have h1:=zfs (md:=.any) hox hF hQ hQ0 (fun a w K h=>zd5 (by rw [List.getElem?_toArray];exact hox) hop hg h) l.toArray.size (Array.replicate l.toArray.size false) a { w with drawn:=w.drawn+1 } (by simp) (by
  simpa [zad] using h3)
 exact h1
end
end Go.Proofs.YtkmcmmcencdcpaaGreatDoor
