/- Parts of the proof: memory, numbers, walks of the functions that are called. -/
import Derived.Deep.Quiet
import Derived.StillTail
import Derived.Test.YtacfcmdlgebhgaaGreatMg12
set_option linter.unusedVariables false
set_option linter.unusedSimpArgs false
namespace Go.Proofs.YtacfcmdlgebhgaaGreat
open Go.RowKit
structure zd9 (W:World) where
 it:World
 below:Below W.heap.size W it
instance (W:World):Inhabited (zd9 W):=⟨⟨W,zP W⟩⟩
def grown (W:World) (t:zd9 W):World:=t.it
theorem yq (W:World) (t:zd9 W):Below W.heap.size W (grown W t):=t.below
theorem zF {W:World} {g i:Nat} {v:Value} (hl:g<W.heap.size) (hc:W.cell? ⟨g,i,none⟩=some v) (t:zd9 W):(grown W t).cell? ⟨g,i,none⟩=some v:=(t.below.cell hl).trans hc
theorem vW {W:World} {a:Addr} {i:Nat} {v:Value} (hl:a.block<W.heap.size) (hc:W.cell? (a.add i)=some v) (t:zd9 W):(grown W t).cell? (a.add i)=some v:=(t.below.cell (by rw [zy];exact hl)).trans hc
theorem zR {P:Program} {f:FuncId} {args:Array Value} {W:World} {t:zd9 W} {v:Value} (h:Calls P f args (grown W t) (vO (grown W t) v)):
 Calls P f args (grown W t) fun e w'' =>e= .returned v/\∃ s:zd9 W,w'' =grown W s:=
 h.mono fun _ _ ⟨he,hb⟩=>⟨he,⟨_,ext t.below hb⟩,rfl⟩
section
variable {P:Program} {ops:Array Oper} {md:Region.Mode} {C:World->Prop}
def sinkB (md:Region.Mode) (ops:Array Oper) (s n:Nat):Bool:=
 (List.range n).all fun i=>decide (i<s) || (List.range (n+1)).any fun j=>decide (i<j) && Region.waitsFor md ops j i
theorem zft {s n:Nat} {listed:Array Bool} (hs:sinkB md ops s n=true) (hc:Region.chainB md ops n=true) (hn:n<ops.size) (inv:HeadInv md ops n listed):
 ∀ (d i:Nat),n - i=d->s<=i->i<n->listed.getD i true=false->∀ t,n<=t->t ∉ Region.ready md ops listed:=by
 intro d
 induction d using Nat.strongRecOn with
 | _ d ih=>
   intro i hd hsi hi hun t ht hr;obtain ⟨_,ot,hot,hall⟩:=mem_ready.1 hr;have htlt:t<ops.size:=(Array.getElem?_eq_some_iff.1 hot).1
   by_cases htn:t=n
   rotate_left
   . have h1:=List.all_eq_true.1 hc t (List.mem_range.2 htlt)
     simp only [Bool.or_eq_true,decide_eq_true_eq] at h1
     rcases h1 with h1 | h1
     . omega
     . obtain ⟨o',ho',e,he,hb,hon⟩:=Region.waitsFor_spec h1
       obtain rfl:o' =ot:=Option.some.inj (ho'.symm.trans hot);have h2:=hall e he hb;rw [hon,getD_both (inv.tail (t - 1) (by omega) (by omega))] at h2
       cases h2
   subst htn
   have h1:=List.all_eq_true.1 hs i (List.mem_range.2 hi);rw [Bool.or_eq_true,decide_eq_true_eq] at h1
   rcases h1 with h1 | h1
   . omega
   . obtain ⟨j,hj,hj2⟩:=List.any_eq_true.1 h1
     simp only [Bool.and_eq_true,decide_eq_true_eq] at hj2;obtain ⟨oj,hoj,e,he,hb,hon⟩:=Region.waitsFor_spec hj2.2;have hjle:j<=t:=by have:=List.mem_range.1 hj;omega
     by_cases hjt:j=t
     . subst hjt
       obtain rfl:oj=ot:=Option.some.inj (hoj.symm.trans hot);have h2:=hall e he hb;rw [hon,getD_both hun] at h2
       cases h2
     cases hl:listed.getD j false with
     | true=>
       have h2:=inv.closed j oj hoj hl e he hb;rw [hon,getD_both hun] at h2
       cases h2
     | false=>
       have hjs:j<listed.size:=by rw [inv.size];omega
       exact ih (t - j) (by omega) j rfl (by omega) (by omega) (getD_in hjs hl) t (Nat.le_refl _) hr
def zr1 (P:Program) (md:Region.Mode) (ops:Array Oper) (C:World->Prop) (n:Nat) (L:Array Bool->Act->Prop):Nat->Array Bool->Act->Prop
 | 0,listed,a=>L listed a
 | f+1,listed,a=>Region.ready md ops listed≠[]/\∀ i∈Region.ready md ops listed,i<n/\qOp P ops C i (zr1 P md ops C n L f (listed.setIfInBounds i true)) a
theorem Ye {n g:Nat} {L:Array Bool->Act->Prop} {Q:Exit->Act->World->Prop} (hL:∀ listed a w,C w->L listed a->wpAny P md ops Q g listed a w):
 ∀ (f:Nat) (listed:Array Bool) (a:Act) (w:World),C w->zr1 P md ops C n L f listed a->wpAny P md ops Q (f+g) listed a w
 | 0,listed,a,w,hw,h=>by rw [Nat.zero_add];exact hL _ _ _ hw h
 | f+1,listed,a,w,hw,h=>by
   rw [show f+1+g=(f+g)+1 by omega];exact ⟨fun h0=>absurd h0 h.1,fun i hi=>wpOp_of_qOp hw (fun a' w' hw' h' =>Ye hL f _ a' w' hw' h') (h.2 i hi).2⟩
theorem zlm {s n i:Nat} {oi:Oper} {v:Value} {L:Array Bool->Act->Prop} (hi:ops[i]?=some oi) (hsel:∀ (j:Nat) (o:Oper) cs b,ops[j]?=some o->o.op≠ .select cs b)
 (hs:sinkB md ops s n=true) (hc:Region.chainB md ops n=true) (hn:n<ops.size) (hsi:s<=i) (hin:i<n) (hdone:∀ listed a,L listed a->∀ j∈Region.ready md ops listed,n<=j):
 ∀ (f:Nat) (listed:Array Bool) (a:Act),HeadInv md ops n listed->
  (∀ j oj,ops[j]?=some oj->j≠i->listed.getD j true=false->(∀ e∈oj.after,Region.binds md e=true->e.on≠i)->oi.apart ops oj=true)->
  i∈Region.ready md ops listed->YieldsIn P ops C oi v a->
  zr1 P md ops C n L f (listed.setIfInBounds i true) (a.put oi.dst v)->zr1 P md ops C n L (f+1) listed a:=by
 intro f
 induction f with
 | zero=>
   intro listed a inv _ hr hy H;have hun:=(mem_ready.1 hr).1;refine ⟨fun h=>(by rw [h] at hr;cases hr),fun j hj=>?_⟩
   have hjn:j<n:=by
    rcases Nat.lt_or_ge j n with h | h
    . exact h
    . exact absurd hj (zft hs hc hn inv _ i rfl hsi hin hun j h)
   refine ⟨hjn,?_⟩
   by_cases hji:j=i
   . subst hji;exact hy.qOp hi H
   have:=hdone _ _ H j (ready_mono hj hji)
   omega
 | succ f ih=>
   intro listed a inv hfree hr hy H;have hun:=(mem_ready.1 hr).1;refine ⟨fun h=>(by rw [h] at hr;cases hr),fun j hj=>?_⟩
   have hjn:j<n:=by
    rcases Nat.lt_or_ge j n with h | h
    . exact h
    . exact absurd hj (zft hs hc hn inv _ i rfl hsi hin hun j h)
   refine ⟨hjn,?_⟩
   by_cases hji:j=i
   . subst hji;exact hy.qOp hi H
   have h1:=(H.2 j (ready_mono hj hji)).2
   obtain ⟨hjun,oj,hoj,hall⟩:=mem_ready.1 hj
   have hnot:∀ e∈oj.after,Region.binds md e=true->e.on≠i:=fun e he hb heq=>by
    have h2:=hall e he hb;rw [heq,getD_both hun] at h2
    cases h2
   have h2:=qOp_put hoj (hfree j oj hoj hji hjun hnot) (fun cs b=>hsel i oi cs b hi) (fun cs b=>hsel j oj cs b hoj) hy h1;refine qOp_mono (fun a' h3=>ih (listed.setIfInBounds j true) a' (inv.set hj hjn) (fun k ok hk hki hun2 hno=>?_) (ready_mono hr (Ne.symm hji)) h3.1 ?_) h2
   rotate_left
   . rw [Array.setIfInBounds_comm _ _ hji]
     exact h3.2
   refine hfree k ok hk hki ?_ hno
   by_cases hjk:j=k
   . subst hjk;exact hjun
   rw [_root_.Go.getD_set_ne true hjk] at hun2;exact hun2
theorem zaz {s n g:Nat} {Lq:Act->Prop} (hsel:Region.noSelect ops=true) (hs:sinkB md ops s n=true) (hc:Region.chainB md ops n=true) (hn:n<ops.size):
 ∀ (l:List Oper) (k:Nat) (listed:Array Bool) (a:Act),s<=k->(∀ j,j<l.length->l[j]?=ops[k+j]?)->k+l.length=n->HeadInv md ops n listed->
 Region.lexHead md ops g l.length k listed=true->wpQuiet P ops C Lq l a->
 zr1 P md ops C n (fun listed' a' =>Region.seqB md ops g n listed' =true/\Lq a') l.length listed a
 | [],k,listed,a,_,_,hk,_,hB,h=>by
   obtain rfl:k=n:=by simpa using hk
   exact ⟨by simpa [Region.lexHead] using hB,h⟩
 | o :: l,k,listed,a,hsk,hl,hk,inv,hB,h=>by
   have h0:ops[k]?=some o:=by simpa using (hl 0 (by simp)).symm
   simp only [List.length_cons,Region.lexHead,Bool.and_eq_true] at hB;obtain ⟨⟨hr,hf⟩,hB'⟩:=hB;have hkn:k<n:=by simp only [List.length_cons] at hk;omega
   have hr' :k∈Region.ready md ops listed:=by simpa using hr
   have hst:qOp P ops C k (wpQuiet P ops C Lq l) a:=by unfold qOp;simp only [h0];exact h
   obtain ⟨v,hy,hK⟩:=yieldsIn_of_qOp h0 hst
   exact zlm h0 (Region.noSelect_spec hsel) hs hc hn hsk hkn (fun listed' a' hL=>seqB_ready hL.1) l.length listed a inv (Region.free_spec h0 hf) hr' hy
    (zaz hsel hs hc hn l (k+1) _ _ (by omega) (fun j hj=>by have:=hl (j+1) (by simp;omega);simpa [Nat.add_assoc,Nat.add_comm 1 j] using this) (by simp only [List.length_cons] at hk;omega) (inv.set hr' hkn) hB' hK)
end
def zwx (md:Region.Mode) (ops:Array Oper):Nat->Nat->Array Bool->Bool
 | 0,_,_=>true
 | f+1,k,listed=>(Region.ready md ops listed).contains k && Region.free md ops listed k && (match ops[k]? with | some o=>o.guard.isNone | none=>false) && zwx md ops f (k+1) (listed.setIfInBounds k true)
def zq6:Nat->Nat->Array Bool->Array Bool
 | 0,_,listed=>listed
 | f+1,k,listed=>zq6 f (k+1) (listed.setIfInBounds k true)
def zgg (P:Program) (Q:Act->Prop):List Oper->Act->Prop
 | [],a=>Q a
 | o :: rest,a=>∃ v,(∀ w,(execOp a.eval o).run P w= .ok (.value v) w)/\zgg P Q rest (a.put o.dst v)
theorem zgn {P:Program} {Q:Act->Prop} {a:Act} (h:Q a):zgg P Q [] a:=h
theorem YM {P:Program} {Q:Act->Prop} {o:Oper} {rest:List Oper} {a:Act} (h:∀ K:Act->Prop,(∀ a,zgg P Q rest a->K a)->∃ v,(∀ w,(execOp a.eval o).run P w= .ok (.value v) w)/\K (a.put o.dst v)):zgg P Q (o :: rest) a:=
 h _ (fun _ h=>h)
theorem za5 {P:Program} {md:Region.Mode} {ops:Array Oper} {Q:Exit->Act->World->Prop} {g:Nat} {L:Act->Prop} {w:World} (hsel:Region.noSelect ops=true)
 (hQ:∀ k v c a w,Q (.panic c) (Act.put a (some k) v) w->Q (.panic c) a w) {listed' :Array Bool} (hL:∀ a,L a->wpAny P md ops Q g listed' a w):
 ∀ (l:List Oper) (k:Nat) (listed:Array Bool) (a:Act),(∀ j,j<l.length->l[j]?=ops[k+j]?)->zwx md ops l.length k listed=true->zq6 l.length k listed=listed' ->zgg P L l a->wpAny P md ops Q (l.length+g) listed a w
 | [],k,listed,a,_,_,hp,h=>by
   have hp:listed=listed' :=hp;rw [hp]
   simpa using hL a h
 | o :: l,k,listed,a,hl,hB,hp,h=>by
   have h0:ops[k]?=some o:=by simpa using (hl 0 (by simp)).symm
   simp only [List.length_cons,zwx,Bool.and_eq_true,h0] at hB;obtain ⟨⟨⟨hr,hf⟩,hg⟩,hB'⟩:=hB;obtain ⟨v,hv,hK⟩:=h;rw [List.length_cons,show l.length+1+g=(l.length+g)+1 by omega];refine wpAny_take h0 hsel hf hr (fun c a w h=>?_) (.inl ⟨?_,hv⟩) ?_
   . cases hd:o.dst with
     | none=>rw [hd] at h;exact h
     | some k=>rw [hd] at h;exact hQ k _ c a w h
   . cases hgd:o.guard with
     | none=>simp [Region.wanted,hgd]
     | some _=>rw [hgd] at hg;simp at hg
   . exact za5 hsel hQ hL l (k+1) _ _ (fun j hj=>by have:=hl (j+1) (by simp;omega);simpa [Nat.add_assoc,Nat.add_comm 1 j] using this) hB' hp hK
def zk6 (md:Region.Mode) (ops:Array Oper) (s n:Nat):Bool:=
 Region.noSelect ops && decide (s<=n) && decide (n<ops.size) && sinkB md ops s n && Region.chainB md ops n && zwx md ops s 0 (Array.replicate ops.size false) && Region.lexHead md ops (ops.size - n) (n - s) s (zq6 s 0 (Array.replicate ops.size false)) &&
  ((List.range s).all fun j=>(match ops[j]? with | some o=>o.after.all (fun e=> !Region.binds md e) | none=>false))
theorem zjo:∀ (f k:Nat) (listed:Array Bool),(zq6 f k listed).size=listed.size
 | 0,_,_=>rfl
 | f+1,k,listed=>by unfold zq6;rw [zjo];simp
theorem zed:∀ (f k:Nat) (listed:Array Bool) (b:Bool) (j:Nat),(j<k\/k+f<=j)->(zq6 f k listed).getD j b=listed.getD j b
 | 0,_,_,_,_,_=>rfl
 | f+1,k,listed,b,j,h=>by
   unfold zq6;rw [zed f (k+1) _ b j (by omega),_root_.Go.getD_set_ne b (by omega)]
theorem Yr {P:Program} {id:Nat} {Q:Exit->Act->World->Prop} {a:Act} {w:World} {l:List Oper} (s n:Nat) (hm:P.follows .mixedOrders=true) (hB:zk6 .any l.toArray s n=true)
 (hQ:∀ k v c a w,Q (.panic c) (Act.put a (some k) v) w->Q (.panic c) a w)
 (h:zgg P (wpQuiet P l.toArray (fun w' =>∃ t:zd9 w,w' =grown w t) (fun a' =>∀ w',(∃ t:zd9 w,w' =grown w t)->wpList P l.toArray Q (l.drop n) a' w') ((l.take n).drop s)) (l.take s) a):(Code.region id l.toArray true).wp P Q a w:=by
 simp only [zk6,Bool.and_eq_true,decide_eq_true_eq] at hB
 obtain ⟨⟨⟨⟨⟨⟨⟨hsel,hsn⟩,hn⟩,hs⟩,hc⟩,hpre⟩,hlex⟩,hemp⟩:=hB
 have hn' :n<l.length:=by simpa using hn
 have htl:((l.take n).drop s).length=n - s:=by simp;omega
 have hts:(l.take s).length=s:=by simp;omega
 have hdl:(l.drop n).length=l.toArray.size - n:=by simp
 have inv0:HeadInv .any l.toArray n (zq6 s 0 (Array.replicate l.toArray.size false)):=by
  refine ⟨by rw [zjo];simp,fun j oj hj hl e he hb=>?_,fun t ht htl=>?_⟩
  rotate_left
  . rw [zed _ _ _ _ _ (by omega)]
    exact getD_in (by simpa using htl) (getD_replicate_false _ _)
  rcases Nat.lt_or_ge j s with hjs | hjs
  . have h1:=List.all_eq_true.1 hemp j (List.mem_range.2 hjs)
    rw [hj] at h1;have h2:=Array.all_eq_true'.1 h1 e he;rw [hb] at h2;simp at h2
  . rw [zed _ _ _ _ _ (by omega),getD_replicate_false] at hl;cases hl
 refine wp_region_any hm ?_
 have hrest:∀ a,wpQuiet P l.toArray (fun w' =>∃ t:zd9 w,w' =grown w t) (fun a' =>∀ w',(∃ t:zd9 w,w' =grown w t)->wpList P l.toArray Q (l.drop n) a' w') ((l.take n).drop s) a->
  wpAny P .any l.toArray Q (n - s+(l.toArray.size - n)) (zq6 s 0 (Array.replicate l.toArray.size false)) a { w with drawn:=w.drawn+1 }:=by
  intro a h
  have H:=zaz (md:=.any) (g:=l.toArray.size - n) hsel hs hc hn ((l.take n).drop s) s _ a (Nat.le_refl _) (fun j hj=>by
   have hj' :j<n - s:=by rw [htl] at hj;exact hj
   rw [List.getElem?_drop,List.getElem?_take]
   simp
   omega) (by rw [htl];omega) inv0 (by rw [htl];exact hlex) h
  have:=Ye (Q:=Q) (g:=l.toArray.size - n) (fun listed a' w' hw' hL=>by
   have:=wpAny_of_seq (md:=.any) (Q' :=Q) (l.drop n) n listed a' w' (fun j=>by simp [List.getElem?_drop]) (by rw [hdl];exact hL.1) (hL.2 w' hw')
   rwa [hdl] at this) _ _ _ { w with drawn:=w.drawn+1 } ⟨⟨_,zo (zP w) 1⟩,rfl⟩ H
  rw [htl] at this
  exact this
 have:=za5 (md:=.any) (g:=n - s+(l.toArray.size - n)) (w:={ w with drawn:=w.drawn+1 }) hsel hQ hrest (l.take s) 0 (Array.replicate l.toArray.size false) a (fun j hj=>by
  have hj' :j<s:=by rw [hts] at hj;exact hj
  simp [hj']) (by rw [hts];exact hpre) (by rw [hts]) h
 rw [hts,show s+(n - s+(l.toArray.size - n))=l.toArray.size by omega] at this
 exact this
theorem yu {P:Program} {id:Nat} {Q:Exit->Act->World->Prop} {a:Act} {w:World} {l:List Oper} (n:Nat) (hm:P.follows .mixedOrders=true) (hB:zk6 .any l.toArray 0 n=true)
 (h:wpQuiet P l.toArray (fun w' =>∃ t:zd9 w,w' =grown w t) (fun a' =>∀ w',(∃ t:zd9 w,w' =grown w t)->wpList P l.toArray Q (l.drop n) a' w') (l.take n) a):(Code.region id l.toArray true).wp P Q a w:=by
 simp only [zk6,Bool.and_eq_true,decide_eq_true_eq] at hB
 obtain ⟨⟨⟨⟨⟨⟨⟨hsel,hsn⟩,hn⟩,hs⟩,hc⟩,hpre⟩,hlex⟩,hemp⟩:=hB
 have hn' :n<l.length:=by simpa using hn
 have htl:(l.take n).length=n:=by simp;omega
 have hdl:(l.drop n).length=l.toArray.size - n:=by simp
 have inv0:HeadInv .any l.toArray n (Array.replicate l.toArray.size false):=
  ⟨by simp,fun j oj _ hl=>(by rw [getD_replicate_false] at hl;cases hl),fun t _ ht=>getD_in (by simpa using ht) (getD_replicate_false _ _)⟩
 have H:=zaz (md:=.any) (g:=l.toArray.size - n) hsel hs hc hn (l.take n) 0 _ a (Nat.le_refl _) (fun j hj=>by
  have hj' :j<n:=by rw [htl] at hj;exact hj
  simp [hj']) (by simpa using htl) inv0 (by rw [htl];exact hlex) h
 refine wp_region_any hm ?_
 have:=Ye (Q:=Q) (g:=l.toArray.size - n) (fun listed a' w' hw' hL=>by
  have:=wpAny_of_seq (md:=.any) (Q' :=Q) (l.drop n) n listed a' w' (fun j=>by simp [List.getElem?_drop]) (by rw [hdl];exact hL.1) (hL.2 w' hw')
  rwa [hdl] at this) _ _ _ { w with drawn:=w.drawn+1 } ⟨⟨_,zo (zP w) 1⟩,rfl⟩ H
 rw [htl,show n+(l.toArray.size - n)=l.toArray.size by omega] at this
 exact this
theorem zg7 {P:Program} {C:World->Prop} {o:Oper} {a:Act} {v ptr:Value} {K:Act->Prop} (ty:TypeId) (x:Operand) (ho:o.op= .load ty x) (hx:a.eval x=ptr)
 (hl:∀ w,C w->(Instr.loadAt ty ptr).run P w= .ok v w) (hK:K (a.put o.dst v)):o.quiet P a C K:=by
 refine ⟨v,fun w hw=>?_,hK⟩
 unfold Oper.quietAt execOp
 simp only [ho,hx,Sem.run_bind,hl w hw,Result.andThen_ok,Sem.run_pure,Oper.quietUpon,and_self]
theorem xe {P:Program} {id:Nat} {Q:Exit->Act->World->Prop} {a:Act} {w:World} {l:List Oper} (hm:P.follows .mixedOrders=true) (hB:Region.lexB .any l.toArray=true)
 (h:wpQuiet P l.toArray (fun w' =>∃ t:zd9 w,w' =grown w t) (fun a' =>∀ w',(∃ t:zd9 w,w' =grown w t)->Q .normal a' w') l a):(Code.region id l.toArray true).wp P Q a w:=
 wp_region_quiet (C:=fun w' =>∃ t:zd9 w,w' =grown w t) hm hB ⟨⟨_,zo (zP w) 1⟩,rfl⟩ (by simpa using h)
def zxx (x:Nat) (o:Oper):Oper:={ o with after:=#[⟨x,.data⟩] ++ o.after }
def zfz (x:Nat):Nat->List Oper->List Oper
 | _,[]=>[]
 | 0,o :: l=>zxx x o :: l
 | n+1,o :: l=>o :: zfz x n l
theorem zfe (x:Nat):∀ (j:Nat) (l:List Oper),(zfz x j l).length=l.length
 | _,[]=>by cases ‹Nat›<;>rfl
 | 0,o :: l=>rfl
 | n+1,o :: l=>by unfold zfz;simp [zfe x n l]
theorem zdk (x:Nat):∀ (j:Nat) (l:List Oper) (i:Nat),(zfz x j l)[i]?=if i=j then (l[i]?).map (zxx x) else l[i]?
 | j,[],i=>by cases j<;>simp [zfz]
 | 0,o :: l,i=>by cases i<;>simp [zfz]
 | n+1,o :: l,i=>by
   cases i with
   | zero=>simp [zfz]
   | succ i=>simp [zfz,zdk x n l i]
section
variable {P:Program} {md:Region.Mode} {Q:Exit->Act->World->Prop}
theorem zmv (x j:Nat) (l:List Oper) (tmps:Array Value):yielded (zfz x j l).toArray tmps=yielded l.toArray tmps:=by
 funext i
 unfold yielded
 have e:((zfz x j l).toArray[i]?).bind (·.dst)=(l.toArray[i]?).bind (·.dst):=by
  rw [List.getElem?_toArray,List.getElem?_toArray,zdk]
  split
  . cases l[i]?<;>rfl
  rfl
 rw [e]
theorem zne {x j i:Nat} {l:List Oper} {K:Act->World->Prop} {a:Act} {w:World} (h:wpOp P (zfz x j l).toArray Q i K a w):wpOp P l.toArray Q i K a w:=by
 unfold wpOp at*
 rw [zmv,List.getElem?_toArray,zdk] at h
 rw [List.getElem?_toArray]
 by_cases hij:i=j
 rotate_left
 . rw [if_neg hij] at h;exact h
 rw [if_pos hij] at h
 cases ho:l[i]? with
 | none=>rw [ho] at h;exact h
 | some o=>rw [ho] at h;cases o;exact h
def zq7 (md:Region.Mode) (ops:Array Oper) (x j:Nat):Bool:=
 decide (x≠j) && Region.noSelect ops && Region.binds md ⟨x,.data⟩ && (match ops[x]?,ops[j]? with
  | some ox,some oj=>ox.guard.isNone && (ox.after.all fun e=> !Region.binds md e || oj.after.any fun e' =>Region.binds md e' && e'.on == e.on) &&
     ((List.range ops.size).all fun i=>i == x || ox.after.any (fun e=>Region.binds md e && e.on == i) || match ops[i]? with
       | some oi=>oi.after.any (fun e=>Region.binds md e && e.on == x) || ox.apart ops oi
       | none=>true)
  | _,_=>false)
theorem Xy {x j i:Nat} {l:List Oper} {listed:Array Bool} (hb:Region.binds md ⟨x,.data⟩=true):
 i∈Region.ready md (zfz x j l).toArray listed↔i∈Region.ready md l.toArray listed/\(i=j->listed.getD x false=true):=by
 rw [mem_ready,mem_ready,List.getElem?_toArray,List.getElem?_toArray,zdk]
 by_cases hij:i=j
 rotate_left
 . rw [if_neg hij]
   constructor
   . intro h;exact ⟨h,fun e=>absurd e hij⟩
   intro h;exact h.1
 rw [if_pos hij]
 constructor
 . rintro ⟨h1,o,ho,h2⟩
   obtain ⟨o',ho',rfl⟩:=Option.map_eq_some_iff.1 ho;refine ⟨⟨h1,o',ho',fun e he hbe=>h2 e ?_ hbe⟩,fun _=>h2 ⟨x,.data⟩ ?_ hb⟩
   . simp [zxx,he]
   simp [zxx]
 rintro ⟨⟨h1,o,ho,h2⟩,h3⟩
 refine ⟨h1,zxx x o,by rw [ho];rfl,fun e he hbe=>?_⟩;simp only [zxx,Array.mem_append,Array.mem_singleton,List.mem_toArray,List.mem_singleton] at he
 rcases he with he | he
 . rw [he];exact h3 hij
 . exact h2 e he hbe
theorem zms {x j:Nat} {l:List Oper} {ox:Oper} (hox:l[x]?=some ox) (hB:zq7 md l.toArray x j=true)
 (hQ:∀ k v c a w,Q (.panic c) (Act.put a (some k) v) w->Q (.panic c) a w) (hQ0:∀ v c a w,Q (.panic c) (Act.put a none v) w->Q (.panic c) a w)
 (hx:∀ (a:Act) (w:World) (K:Act->World->Prop),wpOp P l.toArray Q x K a w->∃ v,Yields P l.toArray ox v a/\K (a.put ox.dst v) w):
 ∀ (fuel:Nat) (listed:Array Bool) (a:Act) (w:World),listed.size=l.length->wpAny P md (zfz x j l).toArray Q fuel listed a w->wpAny P md l.toArray Q fuel listed a w:=by
 unfold zq7 at hB
 simp only [Bool.and_eq_true,decide_eq_true_eq] at hB
 obtain ⟨⟨⟨hxj,hsel⟩,hb⟩,hB⟩:=hB
 rw [List.getElem?_toArray,List.getElem?_toArray,hox] at hB
 cases hoj:l[j]? with
 | none=>rw [hoj] at hB;simp at hB
 | some oj=>
   rw [hoj] at hB;simp only [Bool.and_eq_true] at hB;obtain ⟨⟨hg,hd⟩,hap⟩:=hB;have hxl:x<l.length:=(List.getElem?_eq_some_iff.1 hox).1
   have hap2:∀ (listed:Array Bool),x∈Region.ready md l.toArray listed->∀ i oi,l.toArray[i]?=some oi->i≠x->listed.getD i true=false->(∀ e∈oi.after,Region.binds md e=true->e.on≠x)->ox.apart l.toArray oi=true:=by
    intro listed hrx i oi hi hne hun hno;obtain ⟨_,ox',hox',hr3⟩:=mem_ready.1 hrx;rw [List.getElem?_toArray,hox] at hox';obtain rfl:=Option.some.inj hox';have h1:=List.all_eq_true.1 hap i (List.mem_range.2 (Array.getElem?_eq_some_iff.1 hi).1);rw [hi] at h1;simp only [Bool.or_eq_true,beq_iff_eq,hne,false_or] at h1
    rcases h1 with h1 | h1 | h1
    . obtain ⟨e,he,h2⟩:=Array.any_eq_true'.1 h1
      simp only [Bool.and_eq_true,beq_iff_eq] at h2;have h3:=hr3 e he h2.1;rw [h2.2,getD_both hun] at h3
      cases h3
    . obtain ⟨e,he,h2⟩:=Array.any_eq_true'.1 h1
      simp only [Bool.and_eq_true,beq_iff_eq] at h2;exact absurd h2.2 (hno e he h2.1)
    . exact h1
   have hjx:∀ listed:Array Bool,listed.size=l.length->j∈Region.ready md l.toArray listed->listed.getD x false=true\/x∈Region.ready md l.toArray listed:=by
    intro listed hs hj
    cases hlx:listed.getD x false with
    | true=>exact .inl rfl
    | false=>
      refine .inr (mem_ready.2 ⟨getD_in (by omega) hlx,ox,by rw [List.getElem?_toArray];exact hox,fun e he hbe=>?_⟩);obtain ⟨_,oj',hoj',h3⟩:=mem_ready.1 hj;rw [List.getElem?_toArray,hoj] at hoj';obtain rfl:=Option.some.inj hoj';have h4:=Array.all_eq_true'.1 hd e he;simp only [hbe,Bool.not_true,Bool.false_or] at h4;obtain ⟨e',he',h5⟩:=Array.any_eq_true'.1 h4;simp only [Bool.and_eq_true,beq_iff_eq] at h5;rw [<- h5.2];exact h3 e' he' h5.1
   intro fuel
   induction fuel with
   | zero=>
     rintro listed a w hs ⟨h1,h2⟩;refine ⟨?_,h2⟩
     apply List.eq_nil_iff_forall_not_mem.2
     intro i hi;have hno:∀ i,¬ i∈Region.ready md (zfz x j l).toArray listed:=fun i h=>by rw [h1] at h;cases h
     by_cases hij:i=j
     rotate_left
     . exact hno i ((Xy hb).2 ⟨hi,fun e=>absurd e hij⟩)
     subst hij
     rcases hjx listed hs hi with h3 | h3
     . exact hno i ((Xy hb).2 ⟨hi,fun _=>h3⟩)
     . exact hno x ((Xy hb).2 ⟨h3,fun e=>absurd e hxj⟩)
   | succ fuel ih=>
     rintro listed a w hs ⟨h1,h2⟩
     by_cases hrx:x∈Region.ready md l.toArray listed
     . have h3:=zne (h2 x ((Xy hb).2 ⟨hrx,fun e=>absurd e hxj⟩))
       obtain ⟨v,hy,h4⟩:=hx a w _ h3;refine wpAny_first (by rw [List.getElem?_toArray];exact hox) (Region.noSelect_spec hsel) (fun c a w h=>?_) fuel listed a w (fun i oi hi hne hun hno=>hap2 listed hrx i oi hi hne hun hno) hrx hy (ih _ _ _ (by simpa using hs) h4)
       cases hdd:ox.dst with
       | none=>rw [hdd] at h;exact hQ0 _ c a w h
       | some k=>rw [hdd] at h;exact hQ k _ c a w h
     have hall:∀ i,i∈Region.ready md l.toArray listed->i∈Region.ready md (zfz x j l).toArray listed:=by
      intro i hi;refine (Xy hb).2 ⟨hi,fun e=>?_⟩;subst e
      rcases hjx listed hs hi with h3 | h3
      . exact h3
      . exact absurd h3 hrx
     refine ⟨fun h3=>h1 ?_,fun i hi=>wpOp_mono (fun a w h=>ih _ a w (by simpa using hs) h) (zne (h2 i (hall i hi)))⟩
     apply List.eq_nil_iff_forall_not_mem.2
     intro i hi;have:=((Xy hb).1 hi).1;rw [h3] at this;cases this
theorem zks {ops:Array Oper} {x ix:Nat} {t:Operand} {ox:Oper} (hox:ops[x]?=some ox) (hop:ox.op= .extract t ix) (hg:ox.guard=none) {a:Act} {w:World} {K:Act->World->Prop} (h:wpOp P ops Q x K a w):
 ∃ v,Yields P ops ox v a/\K (a.put ox.dst v) w:=by
 unfold wpOp at h
 rw [hox] at h
 have hw:∀ y,Region.wanted ox y=true:=fun y=>by simp [Region.wanted,hg]
 simp only [hw,if_true] at h
 have he:execOp a.eval ox=(do pure (Next.value (<- Instr.extract (a.eval t) ix))):=by unfold execOp;simp only [hop]
 cases hv:a.eval t with
 | tuple vs=>
   cases hc:vs[ix]? with
   | some v=>
     have hr:∀ w,(execOp a.eval ox).run P w= .ok (.value v) w:=fun w=>by rw [he,hv];unfold Instr.extract;simp only [hc];rfl
     refine ⟨v,.inl ⟨hw _,hr⟩,?_⟩
     rcases h with h | h
     . unfold Oper.wp at h
       rw [hr w] at h;exact h
     . exfalso
       unfold Oper.asks at h;have h1:=h.1.1;rw [he,hv] at h1;unfold Instr.extract at h1;simp only [hc] at h1;have h2:noRoomEvent∈(#[]:Array Event):=h1;simp at h2
   | none=>
     exfalso
     rcases h with h | h
     . unfold Oper.wp at h
       rw [he,hv] at h;unfold Instr.extract at h;simp only [hc] at h;exact h
     . unfold Oper.asks at h
       have h1:=h.1.1;rw [he,hv] at h1;unfold Instr.extract at h1;simp only [hc] at h1;have h2:noRoomEvent∈(#[]:Array Event):=h1;simp at h2
 | _=>
   exfalso
   rcases h with h | h
   . unfold Oper.wp at h
     rw [he,hv] at h;exact h
   . unfold Oper.asks at h
     have h1:=h.1.1;rw [he,hv] at h1;have h2:noRoomEvent∈(#[]:Array Event):=h1;simp at h2
end
theorem zdg {P:Program} {Q:Exit->Act->World->Prop} {a:Act} {w:World} {l:List Oper} (n:Nat) (hB:zk6 .any l.toArray 0 n=true)
 (h:wpQuiet P l.toArray (fun w' =>∃ t:zd9 w,w' =grown w t) (fun a' =>∀ w',(∃ t:zd9 w,w' =grown w t)->wpList P l.toArray Q (l.drop n) a' w') (l.take n) a):
 wpAny P .any l.toArray Q l.toArray.size (Array.replicate l.toArray.size false) a { w with drawn:=w.drawn+1 }:=by
 simp only [zk6,Bool.and_eq_true,decide_eq_true_eq] at hB
 obtain ⟨⟨⟨⟨⟨⟨⟨hsel,hsn⟩,hn⟩,hs⟩,hc⟩,hpre⟩,hlex⟩,hemp⟩:=hB
 have hn' :n<l.length:=by simpa using hn
 have htl:(l.take n).length=n:=by simp;omega
 have hdl:(l.drop n).length=l.toArray.size - n:=by simp
 have inv0:HeadInv .any l.toArray n (Array.replicate l.toArray.size false):=
  ⟨by simp,fun j oj _ hl=>(by rw [getD_replicate_false] at hl;cases hl),fun t _ ht=>getD_in (by simpa using ht) (getD_replicate_false _ _)⟩
 have H:=zaz (md:=.any) (g:=l.toArray.size - n) hsel hs hc hn (l.take n) 0 _ a (Nat.le_refl _) (fun j hj=>by
  have hj' :j<n:=by rw [htl] at hj;exact hj
  simp [hj']) (by simpa using htl) inv0 (by rw [htl];exact hlex) h
 have:=Ye (Q:=Q) (g:=l.toArray.size - n) (fun listed a' w' hw' hL=>by
  have:=wpAny_of_seq (md:=.any) (Q' :=Q) (l.drop n) n listed a' w' (fun j=>by simp [List.getElem?_drop]) (by rw [hdl];exact hL.1) (hL.2 w' hw')
  rwa [hdl] at this) _ _ _ { w with drawn:=w.drawn+1 } ⟨⟨_,zo (zP w) 1⟩,rfl⟩ H
 rw [htl,show n+(l.toArray.size - n)=l.toArray.size by omega] at this
 exact this
theorem Vk {P:Program} {id:Nat} {Q:Exit->Act->World->Prop} {a:Act} {w:World} {l:List Oper} (x j n:Nat) (hm:P.follows .mixedOrders=true) {ox:Oper} {t:Operand} {ix:Nat} (hox:l[x]?=some ox) (hop:ox.op= .extract t ix) (hg:ox.guard=none)
 (hF:zq7 .any l.toArray x j=true) (hB:zk6 .any (zfz x j l).toArray 0 n=true) (hQ:∀ k v c a w,Q (.panic c) (Act.put a (some k) v) w->Q (.panic c) a w) (hQ0:∀ v c a w,Q (.panic c) (Act.put a none v) w->Q (.panic c) a w)
 (h:wpQuiet P (zfz x j l).toArray (fun w' =>∃ t:zd9 w,w' =grown w t) (fun a' =>∀ w',(∃ t:zd9 w,w' =grown w t)->wpList P (zfz x j l).toArray Q ((zfz x j l).drop n) a' w') ((zfz x j l).take n) a):(Code.region id l.toArray true).wp P Q a w:=by
 refine wp_region_any hm ?_
 have h1:=zms (md:=.any) hox hF hQ hQ0 (fun a w K h=>zks (by rw [List.getElem?_toArray];exact hox) hop hg h) l.toArray.size (Array.replicate l.toArray.size false) a { w with drawn:=w.drawn+1 } (by simp) (by
  have:=zdg (P:=P) (Q:=Q) n hB h
  simpa [zfe] using this)
 exact h1
end Go.Proofs.YtacfcmdlgebhgaaGreat
