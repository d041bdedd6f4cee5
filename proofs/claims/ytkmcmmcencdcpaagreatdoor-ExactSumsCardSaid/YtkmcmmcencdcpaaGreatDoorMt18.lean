/- Parts of the proof: memory, numbers, walks of the functions that are called. -/
import Derived.Deep.Quiet
import Derived.StillTail
import Derived.Test.YtkmcmmcencdcpaaGreatDoorMt12
set_option linter.unusedVariables false
set_option linter.unusedSimpArgs false
namespace Go.Proofs.YtkmcmmcencdcpaaGreatDoor
open Go.RowKit
structure Grow (W:World) where
 it:World
 below:Below W.heap.size W it
instance (W:World):Inhabited (Grow W):=⟨⟨W,xw W⟩⟩
def grown (W:World) (t:Grow W):World:=t.it
section
variable {P:Program} {ops:Array Oper} {md:Region.Mode} {C:World->Prop}
end
def zrn (md:Region.Mode) (ops:Array Oper):Nat->Nat->Array Bool->Bool
 | 0,_,_=>true
 | f+1,k,listed=>(Region.ready md ops listed).contains k && Region.free md ops listed k && (match ops[k]? with | some o=>o.guard.isNone | none=>false) && zrn md ops f (k+1) (listed.setIfInBounds k true)
def zsi:Nat->Nat->Array Bool->Array Bool
 | 0,_,listed=>listed
 | f+1,k,listed=>zsi f (k+1) (listed.setIfInBounds k true)
def zqc (x:Nat) (o:Oper):Oper:={ o with after:=#[⟨x,.data⟩] ++ o.after }
def VB (x:Nat):Nat->List Oper->List Oper
 | _,[]=>[]
 | 0,o :: l=>zqc x o :: l
 | n+1,o :: l=>o :: VB x n l
theorem zad (x:Nat):∀ (j:Nat) (l:List Oper),(VB x j l).length=l.length
 | _,[]=>by cases ‹Nat›<;>rfl
 | 0,o :: l=>rfl
 | n+1,o :: l=>by unfold VB;simp [zad x n l]
theorem VY (x:Nat):∀ (j:Nat) (l:List Oper) (i:Nat),(VB x j l)[i]?=if i=j then (l[i]?).map (zqc x) else l[i]?
 | j,[],i=>by cases j<;>simp [VB]
 | 0,o :: l,i=>by cases i<;>simp [VB]
 | n+1,o :: l,i=>by
   cases i with
   | zero=>simp [VB]
   | succ i=>simp [VB,VY x n l i]
section
variable {P:Program} {md:Region.Mode} {Q:Exit->Act->World->Prop}
theorem zg3 (x j:Nat) (l:List Oper) (tmps:Array Value):yielded (VB x j l).toArray tmps=yielded l.toArray tmps:=by
 funext i
 unfold yielded
 have e:((VB x j l).toArray[i]?).bind (·.dst)=(l.toArray[i]?).bind (·.dst):=by
  rw [List.getElem?_toArray,List.getElem?_toArray,VY]
  split
  . cases l[i]?<;>rfl
  . rfl
 rw [e]
theorem zhg {x j i:Nat} {l:List Oper} {K:Act->World->Prop} {a:Act} {w:World} (h:wpOp P (VB x j l).toArray Q i K a w):wpOp P l.toArray Q i K a w:=by
 unfold wpOp at*
 rw [zg3,List.getElem?_toArray,VY] at h
 rw [List.getElem?_toArray]
 by_cases hij:i=j
 . rw [if_pos hij] at h
   cases ho:l[i]? with
   | none=>rw [ho] at h;exact h
   | some o=>rw [ho] at h;cases o;exact h
 . rw [if_neg hij] at h;exact h
def zlq (md:Region.Mode) (ops:Array Oper) (x j:Nat):Bool:=
 decide (x≠j) && Region.noSelect ops && Region.binds md ⟨x,.data⟩ && (match ops[x]?,ops[j]? with
  | some ox,some oj=>ox.guard.isNone && (ox.after.all fun e=> !Region.binds md e || oj.after.any fun e' =>Region.binds md e' && e'.on == e.on) &&
     ((List.range ops.size).all fun i=>i == x || ox.after.any (fun e=>Region.binds md e && e.on == i) || match ops[i]? with
       | some oi=>oi.after.any (fun e=>Region.binds md e && e.on == x) || ox.apart ops oi
       | none=>true)
  | _,_=>false)
theorem Yo {x j i:Nat} {l:List Oper} {listed:Array Bool} (hb:Region.binds md ⟨x,.data⟩=true):
 i∈Region.ready md (VB x j l).toArray listed↔i∈Region.ready md l.toArray listed/\(i=j->listed.getD x false=true):=by
 rw [mem_ready,mem_ready,List.getElem?_toArray,List.getElem?_toArray,VY]
 by_cases hij:i=j
 . rw [if_pos hij]
   constructor
   . rintro ⟨h1,o,ho,h2⟩
     obtain ⟨o',ho',rfl⟩:=Option.map_eq_some_iff.1 ho;refine ⟨⟨h1,o',ho',fun e he hbe=>h2 e ?_ hbe⟩,fun _=>h2 ⟨x,.data⟩ ?_ hb⟩
     . simp [zqc,he]
     . simp [zqc]
   . rintro ⟨⟨h1,o,ho,h2⟩,h3⟩
     refine ⟨h1,zqc x o,by rw [ho];rfl,fun e he hbe=>?_⟩;simp only [zqc,Array.mem_append,Array.mem_singleton,List.mem_toArray,List.mem_singleton] at he
     rcases he with he | he
     . rw [he];exact h3 hij
     . exact h2 e he hbe
 . rw [if_neg hij]
   constructor
   . intro h;exact ⟨h,fun e=>absurd e hij⟩
   . intro h;exact h.1
theorem zfs {x j:Nat} {l:List Oper} {ox:Oper} (hox:l[x]?=some ox) (hB:zlq md l.toArray x j=true)
 (hQ:∀ k v c a w,Q (.panic c) (Act.put a (some k) v) w->Q (.panic c) a w) (hQ0:∀ v c a w,Q (.panic c) (Act.put a none v) w->Q (.panic c) a w)
 (hx:∀ (a:Act) (w:World) (K:Act->World->Prop),wpOp P l.toArray Q x K a w->∃ v,Yields P l.toArray ox v a/\K (a.put ox.dst v) w):
 ∀ (fuel:Nat) (listed:Array Bool) (a:Act) (w:World),listed.size=l.length->wpAny P md (VB x j l).toArray Q fuel listed a w->wpAny P md l.toArray Q fuel listed a w:=by
 unfold zlq at hB
 simp only [Bool.and_eq_true,decide_eq_true_eq] at hB
 obtain ⟨⟨⟨hxj,hsel⟩,hb⟩,hB⟩:=hB
 rw [List.getElem?_toArray,List.getElem?_toArray,hox] at hB
 cases hoj:l[j]? with
 | none=>rw [hoj] at hB;simp at hB
 | some oj=>
   rw [hoj] at hB;simp only [Bool.and_eq_true] at hB;obtain ⟨⟨hg,hd⟩,hap⟩:=hB;have hxl:x<l.length:=(List.getElem?_eq_some_iff.1 hox).1
   have hap2:∀ (listed:Array Bool),x∈Region.ready md l.toArray listed->∀ i oi,l.toArray[i]?=some oi->i≠x->listed.getD i true=false->(∀ e∈oi.after,Region.binds md e=true->e.on≠x)->ox.apart l.toArray oi=true:=by
    intro listed hrx i oi hi hne hun hno;obtain ⟨_,ox',hox',hr3⟩:=mem_ready.1 hrx;rw [List.getElem?_toArray,hox] at hox';obtain rfl:=Option.some.inj hox';have h1:=List.all_eq_true.1 hap i (List.mem_range.2 (Array.getElem?_eq_some_iff.1 hi).1);rw [hi] at h1;simp only [Bool.or_eq_true,beq_iff_eq,hne,false_or] at h1
    rcases h1 with h1 | h1 | h1
    . obtain ⟨e,he,h2⟩:=Array.any_eq_true'.1 h1
      simp only [Bool.and_eq_true,beq_iff_eq] at h2;have h3:=hr3 e he h2.1;rw [h2.2,getD_both hun] at h3
      cases h3
    . obtain ⟨e,he,h2⟩:=Array.any_eq_true'.1 h1
      simp only [Bool.and_eq_true,beq_iff_eq] at h2;exact absurd h2.2 (hno e he h2.1)
    . exact h1
   have hjx:∀ listed:Array Bool,listed.size=l.length->j∈Region.ready md l.toArray listed->listed.getD x false=true\/x∈Region.ready md l.toArray listed:=by
    intro listed hs hj
    cases hlx:listed.getD x false with
    | true=>exact .inl rfl
    | false=>
      refine .inr (mem_ready.2 ⟨getD_in (by omega) hlx,ox,by rw [List.getElem?_toArray];exact hox,fun e he hbe=>?_⟩);obtain ⟨_,oj',hoj',h3⟩:=mem_ready.1 hj;rw [List.getElem?_toArray,hoj] at hoj';obtain rfl:=Option.some.inj hoj';have h4:=Array.all_eq_true'.1 hd e he;simp only [hbe,Bool.not_true,Bool.false_or] at h4;obtain ⟨e',he',h5⟩:=Array.any_eq_true'.1 h4;simp only [Bool.and_eq_true,beq_iff_eq] at h5;rw [<- h5.2];exact h3 e' he' h5.1
   intro fuel
   induction fuel with
   | zero=>
     rintro listed a w hs ⟨h1,h2⟩;refine ⟨?_,h2⟩
     apply List.eq_nil_iff_forall_not_mem.2
     intro i hi;have hno:∀ i,¬ i∈Region.ready md (VB x j l).toArray listed:=fun i h=>by rw [h1] at h;cases h
     by_cases hij:i=j
     . subst hij
       rcases hjx listed hs hi with h3 | h3
       . exact hno i ((Yo hb).2 ⟨hi,fun _=>h3⟩)
       . exact hno x ((Yo hb).2 ⟨h3,fun e=>absurd e hxj⟩)
     . exact hno i ((Yo hb).2 ⟨hi,fun e=>absurd e hij⟩)
   | succ fuel ih=>
     rintro listed a w hs ⟨h1,h2⟩
     by_cases hrx:x∈Region.ready md l.toArray listed
     . have h3:=zhg (h2 x ((Yo hb).2 ⟨hrx,fun e=>absurd e hxj⟩))
       obtain ⟨v,hy,h4⟩:=hx a w _ h3;refine wpAny_first (by rw [List.getElem?_toArray];exact hox) (Region.noSelect_spec hsel) (fun c a w h=>?_) fuel listed a w (fun i oi hi hne hun hno=>hap2 listed hrx i oi hi hne hun hno) hrx hy (ih _ _ _ (by simpa using hs) h4)
       cases hdd:ox.dst with
       | none=>rw [hdd] at h;exact hQ0 _ c a w h
       | some k=>rw [hdd] at h;exact hQ k _ c a w h
     . have hall:∀ i,i∈Region.ready md l.toArray listed->i∈Region.ready md (VB x j l).toArray listed:=by
        intro i hi;refine (Yo hb).2 ⟨hi,fun e=>?_⟩;subst e
        rcases hjx listed hs hi with h3 | h3
        . exact h3
        . exact absurd h3 hrx
       refine ⟨fun h3=>h1 ?_,fun i hi=>wpOp_mono (fun a w h=>ih _ a w (by simpa using hs) h) (zhg (h2 i (hall i hi)))⟩
       apply List.eq_nil_iff_forall_not_mem.2
       intro i hi;have:=((Yo hb).1 hi).1;rw [h3] at this;cases this
theorem zd5 {ops:Array Oper} {x ix:Nat} {t:Operand} {ox:Oper} (hox:ops[x]?=some ox) (hop:ox.op= .extract t ix) (hg:ox.guard=none) {a:Act} {w:World} {K:Act->World->Prop} (h:wpOp P ops Q x K a w):
 ∃ v,Yields P ops ox v a/\K (a.put ox.dst v) w:=by
 unfold wpOp at h
 rw [hox] at h
 have hw:∀ y,Region.wanted ox y=true:=fun y=>by simp [Region.wanted,hg]
 simp only [hw,if_true] at h
 have he:execOp a.eval ox=(do pure (Next.value (<- Instr.extract (a.eval t) ix))):=by unfold execOp;simp only [hop]
 cases hv:a.eval t with
 | tuple vs=>
   cases hc:vs[ix]? with
   | some v=>
     have hr:∀ w,(execOp a.eval ox).run P w= .ok (.value v) w:=fun w=>by rw [he,hv];unfold Instr.extract;simp only [hc];rfl
     refine ⟨v,.inl ⟨hw _,hr⟩,?_⟩
     rcases h with h | h
     . unfold Oper.wp at h
       rw [hr w] at h;exact h
     . exfalso
       unfold Oper.asks at h;have h1:=h.1.1;rw [he,hv] at h1;unfold Instr.extract at h1;simp only [hc] at h1;have h2:noRoomEvent∈(#[]:Array Event):=h1;simp at h2
   | none=>
     exfalso
     rcases h with h | h
     . unfold Oper.wp at h
       rw [he,hv] at h;unfold Instr.extract at h;simp only [hc] at h;exact h
     . unfold Oper.asks at h
       have h1:=h.1.1;rw [he,hv] at h1;unfold Instr.extract at h1;simp only [hc] at h1;have h2:noRoomEvent∈(#[]:Array Event):=h1;simp at h2
 | _=>
   exfalso
   rcases h with h | h
   . unfold Oper.wp at h
     rw [he,hv] at h;exact h
   . unfold Oper.asks at h
     have h1:=h.1.1;rw [he,hv] at h1;have h2:noRoomEvent∈(#[]:Array Event):=h1;simp at h2
end
end Go.Proofs.YtkmcmmcencdcpaaGreatDoor
