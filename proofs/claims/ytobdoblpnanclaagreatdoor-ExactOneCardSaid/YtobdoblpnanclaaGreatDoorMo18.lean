/- Parts of the proof. -/
import Derived.Deep.Quiet
import Derived.StillTail
import Derived.Test.YtobdoblpnanclaaGreatDoorMo11
import Derived.Deep.RegionHeld
set_option linter.all false
namespace Go.Proofs.YtobdoblpnanclaaGreatDoor
open Proofs.Tryz Go.RowKit
structure Grow (W:World) where
 it:World
 below:Below W.heap.size W it
instance (W:World):Inhabited (Grow W):=⟨⟨W,xh W⟩⟩
def grown (W:World) (t:Grow W):World:=t.it
section
variable {P:Program} {ops:Array Oper} {md:Region.Mode} {C:World->Prop}
end
def zve (md:Region.Mode) (ops:Array Oper):Nat->Nat->Array Bool->Bool
 | 0,_,_=>true
 | f+1,k,listed=>(Region.ready md ops listed).contains k && Region.free md ops listed k && (match ops[k]? with | some o=>o.guard.isNone | none=>false) && zve md ops f (k+1) (listed.setIfInBounds k true)
def zvs:Nat->Nat->Array Bool->Array Bool
 | 0,_,listed=>listed
 | f+1,k,listed=>zvs f (k+1) (listed.setIfInBounds k true)
def zui (x:Nat) (o:Oper):Oper:={ o with after:=#[⟨x,.data⟩] ++ o.after }
def zbb (x:Nat):Nat->List Oper->List Oper
 | _,[]=>[]
 | 0,o :: l=>zui x o :: l
 | n+1,o :: l=>o :: zbb x n l
theorem zcz (x:Nat):∀ (j:Nat) (l:List Oper),(zbb x j l).length=l.length
 | _,[]=>by cases ‹Nat›<;>rfl
 | 0,o :: l=>rfl
 | n+1,o :: l=>by unfold zbb;simp [zcz x n l]
theorem zbv (x:Nat):∀ (j:Nat) (l:List Oper) (i:Nat),(zbb x j l)[i]?=if i=j then (l[i]?).map (zui x) else l[i]?
 | j,[],i=>by cases j<;>simp [zbb]
 | 0,o :: l,i=>by cases i<;>simp [zbb]
 | n+1,o :: l,i=>by
   cases i with
   | zero=>simp [zbb]
   | succ i=>simp [zbb,zbv x n l i]
section
variable {P:Program} {md:Region.Mode} {Q:Exit->Act->World->Prop}
theorem zin (x j:Nat) (l:List Oper) (tmps:Array Value):yielded (zbb x j l).toArray tmps=yielded l.toArray tmps:=by
 funext i
 unfold yielded
 have e:((zbb x j l).toArray[i]?).bind (·.dst)=(l.toArray[i]?).bind (·.dst):=by
  rw [List.getElem?_toArray,List.getElem?_toArray,zbv]
  split
  . cases l[i]?<;>rfl
  rfl
 rw [e]
theorem zj9 {x j i:Nat} {l:List Oper} {K:Act->World->Prop} {a:Act} {w:World} (h:wpOp P (zbb x j l).toArray Q i K a w):wpOp P l.toArray Q i K a w:=by
 unfold wpOp at*
 rw [zin,List.getElem?_toArray,zbv] at h
 rw [List.getElem?_toArray]
 by_cases b:i=j
 rotate_left
 . rw [if_neg b] at h;exact h
 rw [if_pos b] at h
 cases ho:l[i]? with
 | none=>rw [ho] at h;exact h
 | some o=>rw [ho] at h;cases o;exact h
def zp2 (md:Region.Mode) (ops:Array Oper) (x j:Nat):Bool:=
 decide (x≠j) && Region.noSelect ops && Region.binds md ⟨x,.data⟩ && (match ops[x]?,ops[j]? with
  | some ox,some oj=>ox.guard.isNone && (ox.after.all fun e=> !Region.binds md e || oj.after.any fun e' =>Region.binds md e' && e'.on == e.on) &&
     ((List.range ops.size).all fun i=>i == x || ox.after.any (fun e=>Region.binds md e && e.on == i) || match ops[i]? with
       | some oi=>oi.after.any (fun e=>Region.binds md e && e.on == x) || ox.apart ops oi
       | none=>true)
  | _,_=>false)
theorem Y3 {x j i:Nat} {l:List Oper} {listed:Array Bool} (hb:Region.binds md ⟨x,.data⟩=true):
 i∈Region.ready md (zbb x j l).toArray listed↔i∈Region.ready md l.toArray listed/\(i=j->listed.getD x false=true):=by
 rw [mem_ready,mem_ready,List.getElem?_toArray,List.getElem?_toArray,zbv]
 by_cases r:i=j
 rotate_left
 . rw [if_neg r]
   constructor
   . intro h;exact ⟨h,fun e=>absurd e r⟩
   intro h;exact h.1
 rw [if_pos r]
 constructor
 . rintro ⟨u,o,ho,m⟩
   obtain ⟨B,y,rfl⟩:=Option.map_eq_some_iff.1 ho;refine ⟨⟨u,B,y,fun e b hbe=>m e ?_ hbe⟩,fun _=>m ⟨x,.data⟩ ?_ hb⟩
   . simp [zui,b]
   simp [zui]
 rintro ⟨⟨u,o,ho,m⟩,z⟩
 refine ⟨u,zui x o,by rw [ho];rfl,fun e b hbe=>?_⟩;simp only [zui,Array.mem_append,Array.mem_singleton,List.mem_toArray,uM] at b
 rcases b with b | b
 . rw [b];exact z r
 . exact m e b hbe
theorem zju {x j:Nat} {l:List Oper} {ox:Oper} (hox:l[x]?=some ox) (y:zp2 md l.toArray x j=true)
 (hQ:∀ k v c a w,Q (.panic c) (Act.put a (some k) v) w->Q (.panic c) a w) (hQ0:∀ v c a w,Q (.panic c) (Act.put a none v) w->Q (.panic c) a w)
 (hx:∀ (a:Act) (w:World) (K:Act->World->Prop),wpOp P l.toArray Q x K a w->∃ v,Yields P l.toArray ox v a/\K (a.put ox.dst v) w):
 ∀ (D:Nat) (b:Array Bool) (a:Act) (w:World),b.size=l.length->wpAny P md (zbb x j l).toArray Q D b a w->wpAny P md l.toArray Q D b a w:=by
 unfold zp2 at y
 simp only [Bool.and_eq_true,decide_eq_true_eq] at y
 obtain ⟨⟨⟨N,X⟩,hb⟩,y⟩:=y
 rw [List.getElem?_toArray,List.getElem?_toArray,hox] at y
 cases hoj:l[j]? with
 | none=>rw [hoj] at y;simp at y
 | some oj=>
   rw [hoj] at y;simp only [Bool.and_eq_true] at y;obtain ⟨⟨hg,hd⟩,T⟩:=y;have ac:x<l.length:=(List.getElem?_eq_some_iff.1 hox).1
   have Y:∀ (b:Array Bool),x∈Region.ready md l.toArray b->∀ i B,l.toArray[i]?=some B->i≠x->b.getD i true=false->(∀ e∈B.after,Region.binds md e=true->e.on≠x)->ox.apart l.toArray B=true:=by
    intro b E i B hi I L z;obtain ⟨_,ad,O,aa⟩:=mem_ready.1 E;rw [List.getElem?_toArray,hox] at O;obtain rfl:=Option.some.inj O;have r:=List.all_eq_true.1 T i (List.mem_range.2 (Array.getElem?_eq_some_iff.1 hi).1);rw [hi] at r;simp only [Bool.or_eq_true,beq_iff_eq,I,false_or] at r
    rcases r with r | r | r
    . obtain ⟨e,F,u⟩:=Array.any_eq_true'.1 r
      simp only [Bool.and_eq_true,beq_iff_eq] at u;have m:=aa e F u.1;rw [u.2,getD_both L] at m
      cases m
    . obtain ⟨e,F,u⟩:=Array.any_eq_true'.1 r
      simp only [Bool.and_eq_true,beq_iff_eq] at u;exact absurd u.2 (z e F u.1)
    . exact r
   have S:∀ b:Array Bool,b.size=l.length->j∈Region.ready md l.toArray b->b.getD x false=true\/x∈Region.ready md l.toArray b:=by
    intro b C hj
    cases hlx:b.getD x false with
    | true=>exact .inl rfl
    | false=>
      refine .inr (mem_ready.2 ⟨getD_in (by omega) hlx,ox,by rw [List.getElem?_toArray];exact hox,fun e F hbe=>?_⟩);obtain ⟨_,ae,R,m⟩:=mem_ready.1 hj;rw [List.getElem?_toArray,hoj] at R;obtain rfl:=Option.some.inj R;have G:=Array.all_eq_true'.1 hd e F;simp only [hbe,Bool.not_true,Bool.false_or] at G;obtain ⟨U,V,J⟩:=Array.any_eq_true'.1 G;simp only [Bool.and_eq_true,beq_iff_eq] at J;rw [<- J.2];exact m U V J.1
   intro D
   induction D with
   | zero=>
     rintro b a w C ⟨r,u⟩;refine ⟨?_,u⟩
     apply List.eq_nil_iff_forall_not_mem.2
     intro i hi;have z:∀ i,¬ i∈Region.ready md (zbb x j l).toArray b:=fun i h=>by rw [r] at h;cases h
     by_cases M:i=j
     rotate_left
     . exact z i ((Y3 hb).2 ⟨hi,fun e=>absurd e M⟩)
     subst M
     rcases S b C hi with m | m
     . exact z i ((Y3 hb).2 ⟨hi,fun _=>m⟩)
     . exact z x ((Y3 hb).2 ⟨m,fun e=>absurd e N⟩)
   | succ D ih=>
     rintro b a w C ⟨r,u⟩
     by_cases E:x∈Region.ready md l.toArray b
     . have m:=zj9 (u x ((Y3 hb).2 ⟨E,fun e=>absurd e N⟩))
       obtain ⟨v,Z,G⟩:=hx a w _ m;refine wpAny_first (by rw [List.getElem?_toArray];exact hox) (Region.noSelect_spec X) (fun c a w h=>?_) D b a w (fun i B hi I L z=>Y b E i B hi I L z) E Z (ih _ _ _ (by simpa using C) G)
       cases hdd:ox.dst with
       | none=>rw [hdd] at h;exact hQ0 _ c a w h
       | some k=>rw [hdd] at h;exact hQ k _ c a w h
     have ab:∀ i,i∈Region.ready md l.toArray b->i∈Region.ready md (zbb x j l).toArray b:=by
      intro i hi;refine (Y3 hb).2 ⟨hi,fun e=>?_⟩;subst e
      rcases S b C hi with m | m
      . exact m
      . exact absurd m E
     refine ⟨fun m=>r ?_,fun i hi=>wpOp_mono (fun a w h=>ih _ a w (by simpa using C) h) (zj9 (u i (ab i hi)))⟩
     apply List.eq_nil_iff_forall_not_mem.2
     intro i hi;have:=((Y3 hb).1 hi).1;rw [m] at this;cases this
theorem zgy {ops:Array Oper} {x ix:Nat} {t:Operand} {ox:Oper} (hox:ops[x]?=some ox) (hop:ox.op= .extract t ix) (hg:ox.guard=none) {a:Act} {w:World} {K:Act->World->Prop} (h:wpOp P ops Q x K a w):
 ∃ v,Yields P ops ox v a/\K (a.put ox.dst v) w:=by
 unfold wpOp at h
 rw [hox] at h
 have l:∀ y,Region.wanted ox y=true:=fun y=>by simp [Region.wanted,hg]
 simp only [l,if_true] at h
 have e:execOp a.eval ox=(do pure (Next.value (<- Instr.extract (a.eval t) ix))):=by unfold execOp;simp only [hop]
 cases hv:a.eval t with
 | tuple vs=>
   cases hc:vs[ix]? with
   | some v=>
     have m:∀ w,(execOp a.eval ox).run P w= .ok (.value v) w:=fun w=>by rw [e,hv];unfold Instr.extract;simp only [hc];rfl
     refine ⟨v,.inl ⟨l _,m⟩,?_⟩
     rcases h with h | h
     . unfold Oper.wp at h
       rw [m w] at h;exact h
     . exfalso
       unfold Oper.asks at h;have b:=h.1.1;rw [e,hv] at b;unfold Instr.extract at b;simp only [hc] at b;have j:noRoomEvent∈(#[]:Array Event):=b;simp at j
   | none=>
     exfalso
     rcases h with h | h
     . unfold Oper.wp at h
       rw [e,hv] at h;unfold Instr.extract at h;simp only [hc] at h;exact h
     . unfold Oper.asks at h
       have b:=h.1.1;rw [e,hv] at b;unfold Instr.extract at b;simp only [hc] at b;have j:noRoomEvent∈(#[]:Array Event):=b;simp at j
 | _=>
   exfalso
   rcases h with h | h
   . unfold Oper.wp at h
     rw [e,hv] at h;exact h
   . unfold Oper.asks at h
     have b:=h.1.1;rw [e,hv] at b;have j:noRoomEvent∈(#[]:Array Event):=b;simp at j
end
section
variable {P:Program} {ops:Array Oper} {Q:Exit->Act->World->Prop} {md:Region.Mode} {S:World->Prop}
def zpz (P:Program) (md:Region.Mode) (ops:Array Oper) (Q:Exit->Act->World->Prop) (S:World->Prop) (n:Nat) (L:Array Bool->Act->World->Prop):Nat->Array Bool->Act->World->Prop
 | 0,listed,a,w=>L listed a w
 | f+1,listed,a,w=>Region.ready md ops listed≠[]/\∀ i∈Region.ready md ops listed,i<n/\wpOp P ops Q i (fun a' w' =>S w' /\zpz P md ops Q S n L f (listed.setIfInBounds i true) a' w') a w
theorem Yn {n g:Nat} {L:Array Bool->Act->World->Prop} (hL:∀ listed a w,L listed a w->wpAny P md ops Q g listed a w):
 ∀ (f:Nat) (listed:Array Bool) (a:Act) (w:World),zpz P md ops Q S n L f listed a w->wpAny P md ops Q (f+g) listed a w
 | 0,listed,a,w,h=>by rw [Nat.zero_add];exact hL _ _ _ h
 | f+1,listed,a,w,h=>by
   rw [show f+1+g=(f+g)+1 by omega];exact ⟨fun h0=>absurd h0 h.1,fun i hi=>wpOp_mono (fun a' w' h' =>Yn hL f _ a' w' h'.2) (h.2 i hi).2⟩
theorem zjn {n i:Nat} {oi:Oper} {v:Value} {L:Array Bool->Act->World->Prop} (hi:ops[i]?=some oi) (hsel:∀ (j:Nat) (o:Oper) cs b,ops[j]?=some o->o.op≠ .select cs b)
 (hQ:∀ c a w,Q (.panic c) (a.put oi.dst v) w->Q (.panic c) a w)
 (hs:Region.sinkB md ops n=true) (hc:Region.chainB md ops n=true) (hn:n<ops.size) (hin:i<n) (hdone:∀ l a w,L l a w->∀ j∈Region.ready md ops l,n<=j):
 ∀ (f:Nat) (l:Array Bool) (a:Act) (w:World),HeadInv md ops n l->
  (∀ j y,ops[j]?=some y->j≠i->l.getD j true=false->(∀ e∈y.after,Region.binds md e=true->e.on≠i)->oi.apart ops y=true)->
  i∈Region.ready md ops l->YieldsIf P ops S oi v a->S w->
  zpz P md ops Q S n L f (l.setIfInBounds i true) (a.put oi.dst v) w->zpz P md ops Q S n L (f+1) l a w:=by
 intro f
 induction f with
 | zero=>
   intro l a w inv _ r C hS H;have D:=(mem_ready.1 r).1;refine ⟨fun h=>(by rw [h] at r;cases r),fun j u=>?_⟩
   have z:j<n:=by
    rcases uL j n with h | h
    . exact h
    . exact absurd u (tail_waits hs hc hn inv _ i rfl hin D j h)
   refine ⟨z,?_⟩
   by_cases m:j=i
   . subst m;exact C.wpOp hi hS ⟨hS,H⟩
   have:=hdone _ _ _ H j (ready_mono u m)
   omega
 | succ f ih=>
   intro l a w inv I r C hS H;have D:=(mem_ready.1 r).1;refine ⟨fun h=>(by rw [h] at r;cases r),fun j u=>?_⟩
   have z:j<n:=by
    rcases uL j n with h | h
    . exact h
    . exact absurd u (tail_waits hs hc hn inv _ i rfl hin D j h)
   refine ⟨z,?_⟩
   by_cases m:j=i
   . subst m;exact C.wpOp hi hS ⟨hS,H⟩
   have M:=(H.2 j (ready_mono u m)).2
   obtain ⟨F,y,E,J⟩:=mem_ready.1 u
   have K:∀ e∈y.after,Region.binds md e=true->e.on≠i:=fun e he hb heq=>by
    have B:=J e he hb;rw [heq,getD_both D] at B
    cases B
   have B:=wpOp_putIf E (I j y E m F K) (fun cs b=>hsel i oi cs b hi) (fun cs b=>hsel j y cs b E) hQ C M;refine wpOp_mono (fun a' w' h3=>⟨h3.2.1,ih (l.setIfInBounds j true) a' w' (inv.set u z) (fun k ok hk hki hun2 hno=>?_) (ready_mono r (Ne.symm m)) h3.1 h3.2.1 ?_⟩) B
   rotate_left
   . rw [Array.setIfInBounds_comm _ _ m]
     exact h3.2.2
   refine I k ok hk hki ?_ hno
   by_cases G:j=k
   . subst G;exact F
   rw [_root_.Go.getD_set_ne true G] at hun2;exact hun2
end
section
variable {P:Program} {l:List Oper} {Q:Exit->Act->World->Prop} {md:Region.Mode} {S:World->Prop} {n:Nat}
def zd6 (md:Region.Mode) (ops:Array Oper) (n:Nat):Bool:=Region.noSelect ops && Region.sinkB md ops n && Region.chainB md ops n && decide (n<ops.size)
def zw5 (P:Program) (md:Region.Mode) (l:List Oper) (Q:Exit->Act->World->Prop) (n:Nat) (listed:Array Bool) (a:Act) (w:World):Prop:=
 Region.seqB md l.toArray (l.toArray.size - n) n listed=true/\wpList P l.toArray Q (l.drop n) a w
def HH (P:Program) (md:Region.Mode) (l:List Oper) (Q:Exit->Act->World->Prop) (S:World->Prop) (n f:Nat) (listed:Array Bool) (a:Act) (w:World):Prop:=
 HeadInv md l.toArray n listed->zd6 md l.toArray n=true->zpz P md l.toArray Q S n (zw5 P md l Q n) f listed a w
theorem HH.take (i:Nat) {oi:Oper} {v:Value} {f:Nat} {listed:Array Bool} {a:Act} {w:World} (hi:l.toArray[i]?=some oi) (hf:Region.free md l.toArray listed i=true)
 (hr:(Region.ready md l.toArray listed).contains i=true) (hin:decide (i<n)=true) (hQ:∀ c a w,Q (.panic c) (a.put oi.dst v) w->Q (.panic c) a w) (hy:YieldsIf P l.toArray S oi v a) (hS:S w)
 (h:HH P md l Q S n f (listed.setIfInBounds i true) (a.put oi.dst v) w):HH P md l Q S n (f+1) listed a w:=fun inv hB=>by
 have b :=hB
 unfold zd6 at b
 simp only [Bool.and_eq_true,decide_eq_true_eq] at b hin
 obtain ⟨⟨⟨j,m⟩,r⟩,u⟩:=b
 have e :i∈Region.ready md l.toArray listed:=by simpa using hr
 exact zjn hi (Region.noSelect_spec j) hQ m r u hin (fun listed' a' w' hL=>seqB_ready hL.1) f listed a w inv (Region.free_spec hi hf) e hy hS (h (inv.set e hin) hB)
theorem tK (i:Nat) {oi:Oper} {v:Value} {b:Act} {f:Nat} {listed:Array Bool} {a:Act} {w:World} (h:HH P md l Q S n f (listed.setIfInBounds i true) b w)
 (hi:l.toArray[i]?=some oi:=by rfl) (hf:Region.free md l.toArray listed i=true:=by kernel_rfl) (hr:(Region.ready md l.toArray listed).contains i=true:=by kernel_rfl) (hin:decide (i<n)=true:=by kernel_rfl)
 (hQ:∀ c a w,Q (.panic c) (a.put oi.dst v) w->Q (.panic c) a w:=by exact fun _ _ _ h=>h) (hg:Region.wanted oi (yielded l.toArray a.tmps)=true:=by rfl)
 (hy:∀ w,S w->(execOp a.eval oi).run P w= .ok (.value v) w:=by (intro j e;(try dsimp only at e);go_split_ands;go_simp;try with_reducible rfl)) (hS:S w:=by assumption)
 (hb:a.put oi.dst v=b:=by (simp only [Act.put,List.getElem_toArray,List.getElem_cons_succ,List.getElem_cons_zero,List.setIfInBounds_toArray,List.set_cons_zero,List.set_cons_succ];rfl)):HH P md l Q S n (f+1) listed a w:=by
 subst hb
 exact HH.take i hi hf hr hin hQ (Or.inl ⟨hg,hy⟩) hS h
theorem sK (i:Nat) {oi:Oper} {b:Act} {f:Nat} {listed:Array Bool} {a:Act} {w:World} (h:HH P md l Q S n f (listed.setIfInBounds i true) b w)
 (hi:l.toArray[i]?=some oi:=by rfl) (hf:Region.free md l.toArray listed i=true:=by kernel_rfl) (hr:(Region.ready md l.toArray listed).contains i=true:=by kernel_rfl) (hin:decide (i<n)=true:=by kernel_rfl)
 (hQ:∀ c a w,Q (.panic c) (a.put oi.dst undef) w->Q (.panic c) a w:=by exact fun _ _ _ h=>h) (hg:Region.wanted oi (yielded l.toArray a.tmps)=false:=by rfl)
 (hS:S w:=by assumption)
 (hb:a.put oi.dst undef=b:=by (simp only [Act.put,List.getElem_toArray,List.getElem_cons_succ,List.getElem_cons_zero,List.setIfInBounds_toArray,List.set_cons_zero,List.set_cons_succ];rfl)):HH P md l Q S n (f+1) listed a w:=by
 subst hb
 exact HH.take i hi hf hr hin hQ (Or.inr ⟨hg,rfl⟩) hS h
def Zd (P:Program) (md:Region.Mode) (l:List Oper) (Q:Exit->Act->World->Prop) (S:World->Prop) (n f:Nat) (listed:Array Bool) (a:Act) (w:World) (rs:List Nat):Prop:=
 ∀ i∈rs,wpOp P l.toArray Q i (fun a' w' =>S w' /\HH P md l Q S n f (listed.setIfInBounds i true) a' w') a w
theorem Zd.nil {f:Nat} {listed:Array Bool} {a:Act} {w:World}:Zd P md l Q S n f listed a w []:=fun _ h=>by cases h
theorem Zd.cons {f:Nat} {listed:Array Bool} {a:Act} {w:World} {i:Nat} {o:Oper} {rs:List Nat} (ho:l.toArray[i]?=some o)
 (h:∀ K' :Act->World->Prop,Shut (∀ a w,S w->(S w->HH P md l Q S n f (listed.setIfInBounds i true) a w)->K' a w)->if Region.wanted o (yielded l.toArray a.tmps)=true then Oper.wp P o a w K' Q else K' (a.put o.dst undef) w)
 (hs:Zd P md l Q S n f listed a w rs):Zd P md l Q S n f listed a w (i :: rs):=fun j b=>by
 rcases List.mem_cons.1 b with rfl | b
 . exact wpOp_step ho (fun K' hK=>h K' (fun a w hS hW=>hK a w ⟨hS,hW hS⟩))
 . exact hs j b
theorem HH.ready {rs:List Nat} {f:Nat} {listed:Array Bool} {a:Act} {w:World} (hr:Region.ready md l.toArray listed=rs) (hne:rs≠[]) (hn:(rs.all fun i=>decide (i<n))=true)
 (h:Zd P md l Q S n f listed a w rs):HH P md l Q S n (f+1) listed a w:=fun inv hB=>by
 subst hr
 refine ⟨hne,fun i hi=>?_⟩
 have b:i<n:=by have:=List.all_eq_true.1 hn i hi;simpa using this
 exact ⟨b,wpOp_mono (fun a' w' h' =>⟨h'.1,h'.2 (inv.set hi b) hB⟩) (h i hi)⟩
theorem rK (i:Nat) {o:Oper} {f:Nat} {listed:Array Bool} {a:Act} {w:World}
 (h:∀ K' :Act->World->Prop,Shut (∀ a w,S w->(S w->HH P md l Q S n f (listed.setIfInBounds i true) a w)->K' a w)->if Region.wanted o (yielded l.toArray a.tmps)=true then Oper.wp P o a w K' Q else K' (a.put o.dst undef) w)
 (ho:l.toArray[i]?=some o:=by rfl) (hr:Region.ready md l.toArray listed=[i]:=by kernel_rfl) (hin:([i].all fun i=>decide (i<n))=true:=by kernel_rfl):HH P md l Q S n (f+1) listed a w:=
 HH.ready hr (by simp) hin (Zd.cons ho h Zd.nil)
theorem HH.done {listed:Array Bool} {a:Act} {w:World} (hB:Region.seqB md l.toArray (l.toArray.size - n) n listed=true) (h:wpList P l.toArray Q (l.drop n) a w):HH P md l Q S n 0 listed a w:=fun _ _=>⟨hB,h⟩
theorem ZY {id:Nat} {a:Act} {w:World} (n:Nat) (hm:P.follows .mixedOrders=true) (hB:zd6 .any l.toArray n=true) (hS:S w.drew)
 (h:S w.drew->HH P .any l Q S n n (Array.replicate l.toArray.size false) a w.drew):(Code.region id l.toArray true).wp P Q a w:=by
 have r:n<l.toArray.size:=by
  have b :=hB
  unfold zd6 at b
  simp only [Bool.and_eq_true,decide_eq_true_eq] at b
  exact b.2
 have m:HeadInv .any l.toArray n (Array.replicate l.toArray.size false):=
  ⟨by simp,fun j oj _ hl=>(by rw [getD_replicate_false] at hl;cases hl),fun t _ ht=>getD_in (by simpa using ht) (getD_replicate_false _ _)⟩
 refine wp_region_any hm ?_
 have e:(l.drop n).length=l.toArray.size - n:=by simp
 have:=Yn (Q:=Q) (g:=l.toArray.size - n) (fun listed a' w' hL=>by
  have:=wpAny_of_seq (md:=.any) (Q' :=Q) (l.drop n) n listed a' w' (fun j=>by simp [List.getElem?_drop]) (by rw [e];exact hL.1) hL.2
  rwa [e] at this) _ _ _ _ (h hS m hB)
 rw [show n+(l.toArray.size - n)=l.toArray.size by omega] at this
 exact this
def za6 (P:Program) (S:World->Prop) (R:Act->Prop):List Oper->Act->Prop
 | [],a=>R a
 | o :: rest,a=>∃ v,(∀ w,S w->(execOp a.eval o).run P w= .ok (.value v) w)/\za6 P S R rest (a.put o.dst v)
theorem zB {R:Act->Prop} {a:Act} (h:R a):za6 P S R [] a:=h
theorem zH {R:Act->Prop} {o:Oper} {rest:List Oper} {a b:Act} {v:Value} (h:za6 P S R rest b)
 (hv:∀ w,S w->(execOp a.eval o).run P w= .ok (.value v) w:=by (intro j e;(try dsimp only at e);go_split_ands;go_simp;try with_reducible rfl))
 (hb:a.put o.dst v=b:=by (simp only [Act.put,xST];rfl)):za6 P S R (o :: rest) a:=by
 subst hb
 exact ⟨v,hv,h⟩
theorem VT {d:Nat} {w:World} (hQ:∀ k v c a w,Q (.panic c) (Act.put a (some k) v) w->Q (.panic c) a w) (hS:S w):
 ∀ (l' :List Oper) (k:Nat) (listed:Array Bool) (a:Act),(∀ j,j<l'.length->l'[j]?=l.toArray[k+j]?)->zve md l.toArray l'.length k listed=true->k+l'.length<=n->
  za6 P S (fun a' =>HH P md l Q S n d (zvs l'.length k listed) a' w) l' a->HH P md l Q S n (l'.length+d) listed a w
 | [],k,listed,a,_,_,_,h=>by
   rw [List.length_nil,Nat.zero_add];exact h
 | o :: l',k,listed,a,hl,hB,hk,h=>by
   have b:l.toArray[k]?=some o:=by simpa using (hl 0 (by simp)).symm
   simp only [List.length_cons,zve,Bool.and_eq_true,b] at hB;obtain ⟨⟨⟨u,m⟩,e⟩,r⟩:=hB;obtain ⟨v,hv,y⟩:=h;rw [List.length_cons,show l'.length+1+d=(l'.length+d)+1 by omega];refine HH.take k b m u (by simp at hk;simp;omega) (fun c a w h=>?_) (.inl ⟨?_,hv⟩) hS ?_
   . cases hd:o.dst with
     | none=>rw [hd] at h;exact h
     | some k=>rw [hd] at h;exact hQ k _ c a w h
   . cases hgd:o.guard with
     | none=>simp [Region.wanted,hgd]
     | some _=>rw [hgd] at e;simp at e
   . exact VT hQ hS l' (k+1) _ _ (fun j hj=>by have:=hl (j+1) (by simp;omega);simpa [Nat.add_assoc,Nat.add_comm 1 j] using this) r (by simp at hk;omega) y
theorem Vj {id:Nat} {a:Act} {w:World} (s d n:Nat) (hn:s+d=n) (hm:P.follows .mixedOrders=true) (hB:zd6 .any l.toArray n=true) (hP:zve .any l.toArray s 0 (Array.replicate l.toArray.size false)=true)
 (hl:(l.take s).length=s) (hS:S w.drew) (hQ:∀ k v c a w,Q (.panic c) (Act.put a (some k) v) w->Q (.panic c) a w)
 (h:S w.drew->za6 P S (fun a' =>HH P .any l Q S n d (zvs s 0 (Array.replicate l.toArray.size false)) a' w.drew) (l.take s) a):(Code.region id l.toArray true).wp P Q a w:=by
 refine ZY n hm hB hS fun hS=>?_
 have:=VT (P:=P) (l:=l) (S:=S) (md:=.any) (n:=n) (d:=d) hQ hS (l.take s) 0 (Array.replicate l.toArray.size false) a (fun j hj=>by
  rw [hl] at hj
  rw [List.getElem?_take,if_pos hj]
  simp) (by rw [hl];exact hP) (by rw [hl];omega) (by rw [hl];exact h hS)
 rw [hl,hn] at this
 exact this
end
section
variable {P:Program} {l:List Oper} {Q:Exit->Act->World->Prop} {S:World->Prop} {n:Nat}
theorem zcw {a:Act} {w:World} (n:Nat) (hB:zd6 .any l.toArray n=true)
 (h:HH P .any l Q S n n (Array.replicate l.toArray.size false) a w):wpAny P .any l.toArray Q l.toArray.size (Array.replicate l.toArray.size false) a w:=by
 have r:n<l.toArray.size:=by
  have b :=hB
  unfold zd6 at b
  simp only [Bool.and_eq_true,decide_eq_true_eq] at b
  exact b.2
 have m:HeadInv .any l.toArray n (Array.replicate l.toArray.size false):=
  ⟨by simp,fun j oj _ hl=>(by rw [getD_replicate_false] at hl;cases hl),fun t _ ht=>getD_in (by simpa using ht) (getD_replicate_false _ _)⟩
 have e:(l.drop n).length=l.toArray.size - n:=by simp
 have:=Yn (Q:=Q) (g:=l.toArray.size - n) (fun listed a' w' hL=>by
  have:=wpAny_of_seq (md:=.any) (Q' :=Q) (l.drop n) n listed a' w' (fun j=>by simp [List.getElem?_drop]) (by rw [e];exact hL.1) hL.2
  rwa [e] at this) _ _ _ _ (h m hB)
 rw [show n+(l.toArray.size - n)=l.toArray.size by omega] at this
 exact this
theorem Y8 {id:Nat} {a:Act} {w:World} (x j s d n:Nat) (hn:s+d=n) (hm:P.follows .mixedOrders=true) {ox:Oper} {t:Operand} {ix:Nat} (hox:l[x]?=some ox) (hop:ox.op= .extract t ix) (hg:ox.guard=none)
 (hF:zp2 .any l.toArray x j=true) (hB:zd6 .any (zbb x j l).toArray n=true) (hP:zve .any (zbb x j l).toArray s 0 (Array.replicate (zbb x j l).toArray.size false)=true)
 (hl:((zbb x j l).take s).length=s) (hS:S w.drew) (hQ:∀ k v c a w,Q (.panic c) (Act.put a (some k) v) w->Q (.panic c) a w) (hQ0:∀ v c a w,Q (.panic c) (Act.put a none v) w->Q (.panic c) a w)
 (h:S w.drew->za6 P S (fun a' =>HH P .any (zbb x j l) Q S n d (zvs s 0 (Array.replicate (zbb x j l).toArray.size false)) a' w.drew) ((zbb x j l).take s) a):(Code.region id l.toArray true).wp P Q a w:=by
 refine wp_region_any hm ?_
 have b:=VT (P:=P) (l:=zbb x j l) (S:=S) (md:=.any) (n:=n) (d:=d) hQ hS ((zbb x j l).take s) 0 (Array.replicate (zbb x j l).toArray.size false) a (fun j' hj=>by
  rw [hl] at hj
  rw [List.getElem?_take,if_pos hj]
  simp) (by rw [hl];exact hP) (by rw [hl];omega) (by rw [hl];exact h hS)
 rw [hl,hn] at b
 have m:=zcw n hB b
 have e:=zju (md:=.any) hox hF hQ hQ0 (fun a w K h=>zgy (by rw [List.getElem?_toArray];exact hox) hop hg h) l.toArray.size (Array.replicate l.toArray.size false) a { w with drawn:=w.drawn+1 } (by simp) (by
  simpa [zcz] using m)
 exact e
end
section
variable {P:Program} {l:List Oper} {Q:Exit->Act->World->Prop} {S0 F:World->Prop}
theorem zb7 (kp:∀ w',S0 w' ->F w') {id:Nat} {a:Act} {w:World} (n:Nat) (hS:S0 w.drew)
 (h:S0 w.drew/\F w.drew->HH P .any l Q (fun w' =>S0 w' /\F w') n n (Array.replicate l.toArray.size false) a w.drew)
 (hm:P.follows .mixedOrders=true:=by kernel_rfl) (hB:zd6 .any l.toArray n=true:=by kernel_rfl):(Code.region id l.toArray true).wp P Q a w:=
 ZY (S:=fun w' =>S0 w' /\F w') n hm hB ⟨hS,kp _ hS⟩ h
theorem y8 (kp:∀ w',S0 w' ->F w') {id:Nat} {a:Act} {w:World} (s d n:Nat) (hS:S0 w.drew)
 (h:S0 w.drew/\F w.drew->za6 P (fun w' =>S0 w' /\F w') (fun a' =>HH P .any l Q (fun w' =>S0 w' /\F w') n d (zvs s 0 (Array.replicate l.toArray.size false)) a' w.drew) (l.take s) a)
 (hn:s+d=n:=by rfl) (hm:P.follows .mixedOrders=true:=by kernel_rfl) (hB:zd6 .any l.toArray n=true:=by kernel_rfl)
 (hP:zve .any l.toArray s 0 (Array.replicate l.toArray.size false)=true:=by kernel_rfl) (hl:(l.take s).length=s:=by rfl)
 (hQ:∀ k v c a w,Q (.panic c) (Act.put a (some k) v) w->Q (.panic c) a w:=by (intro _ _ _ _ _ b;exact b)):(Code.region id l.toArray true).wp P Q a w:=
 Vj (S:=fun w' =>S0 w' /\F w') s d n hn hm hB hP hl ⟨hS,kp _ hS⟩ hQ h
theorem hdn {md:Region.Mode} {S:World->Prop} {n:Nat} {listed:Array Bool} {a:Act} {w:World} (h:wpList P l.toArray Q (l.drop n) a w)
 (hB:Region.seqB md l.toArray (l.toArray.size - n) n listed=true:=by kernel_rfl):HH P md l Q S n 0 listed a w:=HH.done hB h
theorem xDR {α:Type}:(∀ (a:α) (l:List α) (i:Nat),(a :: l).drop (i+1)=l.drop i)/\(∀ l:List α,l.drop 0=l)/\(∀ (a:α) (l:List α) (i:Nat),(a :: l).take (i+1)=a :: l.take i)/\(∀ l:List α,l.take 0=[]):=
 ⟨fun _ _ _=>rfl,fun _=>rfl,fun _ _ _=>rfl,fun _=>rfl⟩
end
end Go.Proofs.YtobdoblpnanclaaGreatDoor
