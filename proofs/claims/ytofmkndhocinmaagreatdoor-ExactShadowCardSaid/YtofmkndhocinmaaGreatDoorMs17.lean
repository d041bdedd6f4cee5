/- Parts of the proof. -/
import Derived.Deep.Quiet
import Derived.StillTail
import Derived.Test.YtofmkndhocinmaaGreatDoorMs11
import Derived.Deep.RegionHeld
set_option linter.all false
namespace Go.Proofs.YtofmkndhocinmaaGreatDoor
open Proofs.Tryz Go.RowKit
structure Grow (W:World) where
 it:World
 below:Below W.heap.size W it
instance (W:World):Inhabited (Grow W):=⟨⟨W,vG W⟩⟩
def grown (W:World) (t:Grow W):World:=t.it
section
variable {P:Program} {ops:Array Oper} {md:Region.Mode} {C:World->Prop}
end
def zti (md:Region.Mode) (ops:Array Oper):Nat->Nat->Array Bool->Bool
 | 0,_,_=>true
 | f+1,k,listed=>(Region.ready md ops listed).contains k && Region.free md ops listed k && (match ops[k]? with | some o=>o.guard.isNone | none=>false) && zti md ops f (k+1) (listed.setIfInBounds k true)
def zty:Nat->Nat->Array Bool->Array Bool
 | 0,_,listed=>listed
 | f+1,k,listed=>zty f (k+1) (listed.setIfInBounds k true)
def zsh (x:Nat) (o:Oper):Oper:={ o with after:=#[⟨x,.data⟩] ++ o.after }
def VX (x:Nat):Nat->List Oper->List Oper
 | _,[]=>[]
 | 0,o :: l=>zsh x o :: l
 | n+1,o :: l=>o :: VX x n l
theorem zby (x:Nat):∀ (j:Nat) (l:List Oper),(VX x j l).length=l.length
 | _,[]=>by cases ‹Nat›<;>rfl
 | 0,o :: l=>rfl
 | n+1,o :: l=>by unfold VX;simp [zby x n l]
theorem zap (x:Nat):∀ (j:Nat) (l:List Oper) (i:Nat),(VX x j l)[i]?=if i=j then (l[i]?).map (zsh x) else l[i]?
 | j,[],i=>by cases j<;>simp [VX]
 | 0,o :: l,i=>by cases i<;>simp [VX]
 | n+1,o :: l,i=>by
   cases i with
   | zero=>simp [VX]
   | succ i=>simp [VX,zap x n l i]
section
variable {P:Program} {md:Region.Mode} {Q:Exit->Act->World->Prop}
theorem zg1 (x j:Nat) (l:List Oper) (tmps:Array Value):yielded (VX x j l).toArray tmps=yielded l.toArray tmps:=by
 funext i
 unfold yielded
 have e:((VX x j l).toArray[i]?).bind (·.dst)=(l.toArray[i]?).bind (·.dst):=by
  rw [List.getElem?_toArray,List.getElem?_toArray,zap]
  split
  . cases l[i]?<;>rfl
  rfl
 rw [e]
theorem zip {x j i:Nat} {l:List Oper} {K:Act->World->Prop} {a:Act} {w:World} (h:wpOp P (VX x j l).toArray Q i K a w):wpOp P l.toArray Q i K a w:=by
 unfold wpOp at*
 rw [zg1,List.getElem?_toArray,zap] at h
 rw [List.getElem?_toArray]
 by_cases b:i=j
 rotate_left
 . rw [if_neg b] at h;exact h
 rw [if_pos b] at h
 cases ho:l[i]? with
 | none=>rw [ho] at h;exact h
 | some o=>rw [ho] at h;cases o;exact h
def zog (md:Region.Mode) (ops:Array Oper) (x j:Nat):Bool:=
 decide (x≠j) && Region.noSelect ops && Region.binds md ⟨x,.data⟩ && (match ops[x]?,ops[j]? with
  | some ox,some oj=>ox.guard.isNone && (ox.after.all fun e=> !Region.binds md e || oj.after.any fun e' =>Region.binds md e' && e'.on == e.on) &&
     ((List.range ops.size).all fun i=>i == x || ox.after.any (fun e=>Region.binds md e && e.on == i) || match ops[i]? with
       | some oi=>oi.after.any (fun e=>Region.binds md e && e.on == x) || ox.apart ops oi
       | none=>true)
  | _,_=>false)
theorem Y1 {x j i:Nat} {l:List Oper} {listed:Array Bool} (hb:Region.binds md ⟨x,.data⟩=true):
 i∈Region.ready md (VX x j l).toArray listed↔i∈Region.ready md l.toArray listed/\(i=j->listed.getD x false=true):=by
 rw [mem_ready,mem_ready,List.getElem?_toArray,List.getElem?_toArray,zap]
 by_cases r:i=j
 rotate_left
 . rw [if_neg r]
   constructor
   . intro h;exact ⟨h,fun e=>absurd e r⟩
   intro h;exact h.1
 rw [if_pos r]
 constructor
 . rintro ⟨y,o,u,m⟩
   obtain ⟨C,z,rfl⟩:=Option.map_eq_some_iff.1 u;refine ⟨⟨y,C,z,fun e b hbe=>m e ?_ hbe⟩,fun _=>m ⟨x,.data⟩ ?_ hb⟩
   . simp [zsh,b]
   simp [zsh]
 rintro ⟨⟨y,o,u,m⟩,B⟩
 refine ⟨y,zsh x o,by rw [u];rfl,fun e b hbe=>?_⟩;simp only [zsh,Array.mem_append,Array.mem_singleton,List.mem_toArray,uM] at b
 rcases b with b | b
 . rw [b];exact B r
 . exact m e b hbe
theorem zid {x j:Nat} {l:List Oper} {ox:Oper} (hox:l[x]?=some ox) (u:zog md l.toArray x j=true)
 (hQ:∀ k v c a w,Q (.panic c) (Act.put a (some k) v) w->Q (.panic c) a w) (hQ0:∀ v c a w,Q (.panic c) (Act.put a none v) w->Q (.panic c) a w)
 (hx:∀ (a:Act) (w:World) (K:Act->World->Prop),wpOp P l.toArray Q x K a w->∃ v,Yields P l.toArray ox v a/\K (a.put ox.dst v) w):
 ∀ (C:Nat) (listed:Array Bool) (a:Act) (w:World),listed.size=l.length->wpAny P md (VX x j l).toArray Q C listed a w->wpAny P md l.toArray Q C listed a w:=by
 unfold zog at u
 simp only [Bool.and_eq_true,decide_eq_true_eq] at u
 obtain ⟨⟨⟨M,V⟩,hb⟩,u⟩:=u
 rw [List.getElem?_toArray,List.getElem?_toArray,hox] at u
 cases hoj:l[j]? with
 | none=>rw [hoj] at u;simp at u
 | some oj=>
   rw [hoj] at u;simp only [Bool.and_eq_true] at u;obtain ⟨⟨hg,hd⟩,S⟩:=u;have ab:x<l.length:=(List.getElem?_eq_some_iff.1 hox).1
   have X:∀ (listed:Array Bool),x∈Region.ready md l.toArray listed->∀ i z,l.toArray[i]?=some z->i≠x->listed.getD i true=false->(∀ e∈z.after,Region.binds md e=true->e.on≠x)->ox.apart l.toArray z=true:=by
    intro listed D i z hi G J y;obtain ⟨_,ac,N,Z⟩:=mem_ready.1 D;rw [List.getElem?_toArray,hox] at N;obtain rfl:=Option.some.inj N;have m:=List.all_eq_true.1 S i (List.mem_range.2 (Array.getElem?_eq_some_iff.1 hi).1);rw [hi] at m;simp only [Bool.or_eq_true,beq_iff_eq,G,false_or] at m
    rcases m with m | m | m
    . obtain ⟨e,E,r⟩:=Array.any_eq_true'.1 m
      simp only [Bool.and_eq_true,beq_iff_eq] at r;have b:=Z e E r.1;rw [r.2,getD_both J] at b
      cases b
    . obtain ⟨e,E,r⟩:=Array.any_eq_true'.1 m
      simp only [Bool.and_eq_true,beq_iff_eq] at r;exact absurd r.2 (y e E r.1)
    . exact m
   have R:∀ listed:Array Bool,listed.size=l.length->j∈Region.ready md l.toArray listed->listed.getD x false=true\/x∈Region.ready md l.toArray listed:=by
    intro listed B hj
    cases hlx:listed.getD x false with
    | true=>exact .inl rfl
    | false=>
      refine .inr (mem_ready.2 ⟨getD_in (by omega) hlx,ox,by rw [List.getElem?_toArray];exact hox,fun e E hbe=>?_⟩);obtain ⟨_,ad,O,b⟩:=mem_ready.1 hj;rw [List.getElem?_toArray,hoj] at O;obtain rfl:=Option.some.inj O;have F:=Array.all_eq_true'.1 hd e E;simp only [hbe,Bool.not_true,Bool.false_or] at F;obtain ⟨T,U,I⟩:=Array.any_eq_true'.1 F;simp only [Bool.and_eq_true,beq_iff_eq] at I;rw [<- I.2];exact b T U I.1
   intro C
   induction C with
   | zero=>
     rintro listed a w B ⟨m,r⟩;refine ⟨?_,r⟩
     apply List.eq_nil_iff_forall_not_mem.2
     intro i hi;have y:∀ i,¬ i∈Region.ready md (VX x j l).toArray listed:=fun i h=>by rw [m] at h;cases h
     by_cases L:i=j
     rotate_left
     . exact y i ((Y1 hb).2 ⟨hi,fun e=>absurd e L⟩)
     subst L
     rcases R listed B hi with b | b
     . exact y i ((Y1 hb).2 ⟨hi,fun _=>b⟩)
     . exact y x ((Y1 hb).2 ⟨b,fun e=>absurd e M⟩)
   | succ C ih=>
     rintro listed a w B ⟨m,r⟩
     by_cases D:x∈Region.ready md l.toArray listed
     . have b:=zip (r x ((Y1 hb).2 ⟨D,fun e=>absurd e M⟩))
       obtain ⟨v,Y,F⟩:=hx a w _ b;refine wpAny_first (by rw [List.getElem?_toArray];exact hox) (Region.noSelect_spec V) (fun c a w h=>?_) C listed a w (fun i z hi G J y=>X listed D i z hi G J y) D Y (ih _ _ _ (by simpa using B) F)
       cases hdd:ox.dst with
       | none=>rw [hdd] at h;exact hQ0 _ c a w h
       | some k=>rw [hdd] at h;exact hQ k _ c a w h
     have aa:∀ i,i∈Region.ready md l.toArray listed->i∈Region.ready md (VX x j l).toArray listed:=by
      intro i hi;refine (Y1 hb).2 ⟨hi,fun e=>?_⟩;subst e
      rcases R listed B hi with b | b
      . exact b
      . exact absurd b D
     refine ⟨fun b=>m ?_,fun i hi=>wpOp_mono (fun a w h=>ih _ a w (by simpa using B) h) (zip (r i (aa i hi)))⟩
     apply List.eq_nil_iff_forall_not_mem.2
     intro i hi;have:=((Y1 hb).1 hi).1;rw [b] at this;cases this
theorem zfh {ops:Array Oper} {x ix:Nat} {t:Operand} {ox:Oper} (hox:ops[x]?=some ox) (hop:ox.op= .extract t ix) (hg:ox.guard=none) {a:Act} {w:World} {K:Act->World->Prop} (h:wpOp P ops Q x K a w):
 ∃ v,Yields P ops ox v a/\K (a.put ox.dst v) w:=by
 unfold wpOp at h
 rw [hox] at h
 have l:∀ y,Region.wanted ox y=true:=fun y=>by simp [Region.wanted,hg]
 simp only [l,if_true] at h
 have e:execOp a.eval ox=(do pure (Next.value (<- Instr.extract (a.eval t) ix))):=by unfold execOp;simp only [hop]
 cases hv:a.eval t with
 | tuple vs=>
   cases hc:vs[ix]? with
   | some v=>
     have m:∀ w,(execOp a.eval ox).run P w= .ok (.value v) w:=fun w=>by rw [e,hv];unfold Instr.extract;simp only [hc];rfl
     refine ⟨v,.inl ⟨l _,m⟩,?_⟩
     rcases h with h | h
     . unfold Oper.wp at h
       rw [m w] at h;exact h
     . exfalso
       unfold Oper.asks at h;have b:=h.1.1;rw [e,hv] at b;unfold Instr.extract at b;simp only [hc] at b;have j:noRoomEvent∈(#[]:Array Event):=b;simp at j
   | none=>
     exfalso
     rcases h with h | h
     . unfold Oper.wp at h
       rw [e,hv] at h;unfold Instr.extract at h;simp only [hc] at h;exact h
     . unfold Oper.asks at h
       have b:=h.1.1;rw [e,hv] at b;unfold Instr.extract at b;simp only [hc] at b;have j:noRoomEvent∈(#[]:Array Event):=b;simp at j
 | _=>
   exfalso
   rcases h with h | h
   . unfold Oper.wp at h
     rw [e,hv] at h;exact h
   . unfold Oper.asks at h
     have b:=h.1.1;rw [e,hv] at b;have j:noRoomEvent∈(#[]:Array Event):=b;simp at j
end
section
variable {P:Program} {ops:Array Oper} {Q:Exit->Act->World->Prop} {md:Region.Mode} {S:World->Prop}
def zlc (P:Program) (md:Region.Mode) (ops:Array Oper) (Q:Exit->Act->World->Prop) (S:World->Prop) (n:Nat) (L:Array Bool->Act->World->Prop):Nat->Array Bool->Act->World->Prop
 | 0,listed,a,w=>L listed a w
 | f+1,listed,a,w=>Region.ready md ops listed≠[]/\∀ i∈Region.ready md ops listed,i<n/\wpOp P ops Q i (fun a' w' =>S w' /\zlc P md ops Q S n L f (listed.setIfInBounds i true) a' w') a w
theorem Yq {n g:Nat} {L:Array Bool->Act->World->Prop} (hL:∀ listed a w,L listed a w->wpAny P md ops Q g listed a w):
 ∀ (f:Nat) (listed:Array Bool) (a:Act) (w:World),zlc P md ops Q S n L f listed a w->wpAny P md ops Q (f+g) listed a w
 | 0,listed,a,w,h=>by rw [Nat.zero_add];exact hL _ _ _ h
 | f+1,listed,a,w,h=>by
   rw [show f+1+g=(f+g)+1 by omega];exact ⟨fun h0=>absurd h0 h.1,fun i hi=>wpOp_mono (fun a' w' h' =>Yq hL f _ a' w' h'.2) (h.2 i hi).2⟩
theorem zh4 {n i:Nat} {oi:Oper} {v:Value} {L:Array Bool->Act->World->Prop} (hi:ops[i]?=some oi) (hsel:∀ (j:Nat) (o:Oper) cs b,ops[j]?=some o->o.op≠ .select cs b)
 (hQ:∀ c a w,Q (.panic c) (a.put oi.dst v) w->Q (.panic c) a w)
 (hs:Region.sinkB md ops n=true) (hc:Region.chainB md ops n=true) (hn:n<ops.size) (hin:i<n) (hdone:∀ listed a w,L listed a w->∀ j∈Region.ready md ops listed,n<=j):
 ∀ (f:Nat) (listed:Array Bool) (a:Act) (w:World),HeadInv md ops n listed->
  (∀ j u,ops[j]?=some u->j≠i->listed.getD j true=false->(∀ e∈u.after,Region.binds md e=true->e.on≠i)->oi.apart ops u=true)->
  i∈Region.ready md ops listed->YieldsIf P ops S oi v a->S w->
  zlc P md ops Q S n L f (listed.setIfInBounds i true) (a.put oi.dst v) w->zlc P md ops Q S n L (f+1) listed a w:=by
 intro f
 induction f with
 | zero=>
   intro listed a w C _ m B hS H;have D:=(mem_ready.1 m).1;refine ⟨fun h=>(by rw [h] at m;cases m),fun j r=>?_⟩
   have y:j<n:=by
    rcases uL j n with h | h
    . exact h
    . exact absurd r (tail_waits hs hc hn C _ i rfl hin D j h)
   refine ⟨y,?_⟩
   by_cases l:j=i
   . subst l;exact B.wpOp hi hS ⟨hS,H⟩
   have:=hdone _ _ _ H j (ready_mono r l)
   omega
 | succ f ih=>
   intro listed a w C I m B hS H;have D:=(mem_ready.1 m).1;refine ⟨fun h=>(by rw [h] at m;cases m),fun j r=>?_⟩
   have y:j<n:=by
    rcases uL j n with h | h
    . exact h
    . exact absurd r (tail_waits hs hc hn C _ i rfl hin D j h)
   refine ⟨y,?_⟩
   by_cases l:j=i
   . subst l;exact B.wpOp hi hS ⟨hS,H⟩
   have M:=(H.2 j (ready_mono r l)).2
   obtain ⟨F,u,E,J⟩:=mem_ready.1 r
   have K:∀ e∈u.after,Region.binds md e=true->e.on≠i:=fun e he hb heq=>by
    have z:=J e he hb;rw [heq,getD_both D] at z
    cases z
   have z:=wpOp_putIf E (I j u E l F K) (fun cs b=>hsel i oi cs b hi) (fun cs b=>hsel j u cs b E) hQ B M;refine wpOp_mono (fun a' w' h3=>⟨h3.2.1,ih (listed.setIfInBounds j true) a' w' (C.set r y) (fun k ok hk hki hun2 hno=>?_) (ready_mono m (Ne.symm l)) h3.1 h3.2.1 ?_⟩) z
   rotate_left
   . rw [Array.setIfInBounds_comm _ _ l]
     exact h3.2.2
   refine I k ok hk hki ?_ hno
   by_cases G:j=k
   . subst G;exact F
   rw [_root_.Go.getD_set_ne true G] at hun2;exact hun2
end
section
variable {P:Program} {l:List Oper} {Q:Exit->Act->World->Prop} {md:Region.Mode} {S:World->Prop} {n:Nat}
def zb4 (md:Region.Mode) (ops:Array Oper) (n:Nat):Bool:=Region.noSelect ops && Region.sinkB md ops n && Region.chainB md ops n && decide (n<ops.size)
def zvl (P:Program) (md:Region.Mode) (l:List Oper) (Q:Exit->Act->World->Prop) (n:Nat) (listed:Array Bool) (a:Act) (w:World):Prop:=
 Region.seqB md l.toArray (l.toArray.size - n) n listed=true/\wpList P l.toArray Q (l.drop n) a w
def HH (P:Program) (md:Region.Mode) (l:List Oper) (Q:Exit->Act->World->Prop) (S:World->Prop) (n f:Nat) (listed:Array Bool) (a:Act) (w:World):Prop:=
 HeadInv md l.toArray n listed->zb4 md l.toArray n=true->zlc P md l.toArray Q S n (zvl P md l Q n) f listed a w
theorem HH.take (i:Nat) {oi:Oper} {v:Value} {f:Nat} {listed:Array Bool} {a:Act} {w:World} (hi:l.toArray[i]?=some oi) (hf:Region.free md l.toArray listed i=true)
 (hr:(Region.ready md l.toArray listed).contains i=true) (hin:decide (i<n)=true) (hQ:∀ c a w,Q (.panic c) (a.put oi.dst v) w->Q (.panic c) a w) (hy:YieldsIf P l.toArray S oi v a) (hS:S w)
 (h:HH P md l Q S n f (listed.setIfInBounds i true) (a.put oi.dst v) w):HH P md l Q S n (f+1) listed a w:=fun inv hB=>by
 have b :=hB
 unfold zb4 at b
 simp only [Bool.and_eq_true,decide_eq_true_eq] at b hin
 obtain ⟨⟨⟨j,m⟩,r⟩,u⟩:=b
 have e :i∈Region.ready md l.toArray listed:=by simpa using hr
 exact zh4 hi (Region.noSelect_spec j) hQ m r u hin (fun listed' a' w' hL=>seqB_ready hL.1) f listed a w inv (Region.free_spec hi hf) e hy hS (h (inv.set e hin) hB)
theorem tK (i:Nat) {oi:Oper} {v:Value} {b:Act} {f:Nat} {listed:Array Bool} {a:Act} {w:World} (h:HH P md l Q S n f (listed.setIfInBounds i true) b w)
 (hi:l.toArray[i]?=some oi:=by rfl) (hf:Region.free md l.toArray listed i=true:=by kernel_rfl) (hr:(Region.ready md l.toArray listed).contains i=true:=by kernel_rfl) (hin:decide (i<n)=true:=by kernel_rfl)
 (hQ:∀ c a w,Q (.panic c) (a.put oi.dst v) w->Q (.panic c) a w:=by exact fun _ _ _ h=>h) (hg:Region.wanted oi (yielded l.toArray a.tmps)=true:=by rfl)
 (hy:∀ w,S w->(execOp a.eval oi).run P w= .ok (.value v) w:=by (intro j e;(try dsimp only at e);go_split_ands;go_simp;try with_reducible rfl)) (hS:S w:=by assumption)
 (hb:a.put oi.dst v=b:=by (simp only [Act.put,List.getElem_toArray,List.getElem_cons_succ,List.getElem_cons_zero,List.setIfInBounds_toArray,List.set_cons_zero,List.set_cons_succ];rfl)):HH P md l Q S n (f+1) listed a w:=by
 subst hb
 exact HH.take i hi hf hr hin hQ (Or.inl ⟨hg,hy⟩) hS h
theorem sK (i:Nat) {oi:Oper} {b:Act} {f:Nat} {listed:Array Bool} {a:Act} {w:World} (h:HH P md l Q S n f (listed.setIfInBounds i true) b w)
 (hi:l.toArray[i]?=some oi:=by rfl) (hf:Region.free md l.toArray listed i=true:=by kernel_rfl) (hr:(Region.ready md l.toArray listed).contains i=true:=by kernel_rfl) (hin:decide (i<n)=true:=by kernel_rfl)
 (hQ:∀ c a w,Q (.panic c) (a.put oi.dst undef) w->Q (.panic c) a w:=by exact fun _ _ _ h=>h) (hg:Region.wanted oi (yielded l.toArray a.tmps)=false:=by rfl)
 (hS:S w:=by assumption)
 (hb:a.put oi.dst undef=b:=by (simp only [Act.put,List.getElem_toArray,List.getElem_cons_succ,List.getElem_cons_zero,List.setIfInBounds_toArray,List.set_cons_zero,List.set_cons_succ];rfl)):HH P md l Q S n (f+1) listed a w:=by
 subst hb
 exact HH.take i hi hf hr hin hQ (Or.inr ⟨hg,rfl⟩) hS h
def Za (P:Program) (md:Region.Mode) (l:List Oper) (Q:Exit->Act->World->Prop) (S:World->Prop) (n f:Nat) (listed:Array Bool) (a:Act) (w:World) (rs:List Nat):Prop:=
 ∀ i∈rs,wpOp P l.toArray Q i (fun a' w' =>S w' /\HH P md l Q S n f (listed.setIfInBounds i true) a' w') a w
theorem Za.nil {f:Nat} {listed:Array Bool} {a:Act} {w:World}:Za P md l Q S n f listed a w []:=fun _ h=>by cases h
theorem Za.cons {f:Nat} {listed:Array Bool} {a:Act} {w:World} {i:Nat} {o:Oper} {rs:List Nat} (ho:l.toArray[i]?=some o)
 (h:∀ K' :Act->World->Prop,Shut (∀ a w,S w->(S w->HH P md l Q S n f (listed.setIfInBounds i true) a w)->K' a w)->if Region.wanted o (yielded l.toArray a.tmps)=true then Oper.wp P o a w K' Q else K' (a.put o.dst undef) w)
 (hs:Za P md l Q S n f listed a w rs):Za P md l Q S n f listed a w (i :: rs):=fun j b=>by
 rcases List.mem_cons.1 b with rfl | b
 . exact wpOp_step ho (fun K' hK=>h K' (fun a w hS hW=>hK a w ⟨hS,hW hS⟩))
 . exact hs j b
theorem HH.ready {rs:List Nat} {f:Nat} {listed:Array Bool} {a:Act} {w:World} (hr:Region.ready md l.toArray listed=rs) (hne:rs≠[]) (hn:(rs.all fun i=>decide (i<n))=true)
 (h:Za P md l Q S n f listed a w rs):HH P md l Q S n (f+1) listed a w:=fun inv hB=>by
 subst hr
 refine ⟨hne,fun i hi=>?_⟩
 have b:i<n:=by have:=List.all_eq_true.1 hn i hi;simpa using this
 exact ⟨b,wpOp_mono (fun a' w' h' =>⟨h'.1,h'.2 (inv.set hi b) hB⟩) (h i hi)⟩
theorem rK (i:Nat) {o:Oper} {f:Nat} {listed:Array Bool} {a:Act} {w:World}
 (h:∀ K' :Act->World->Prop,Shut (∀ a w,S w->(S w->HH P md l Q S n f (listed.setIfInBounds i true) a w)->K' a w)->if Region.wanted o (yielded l.toArray a.tmps)=true then Oper.wp P o a w K' Q else K' (a.put o.dst undef) w)
 (ho:l.toArray[i]?=some o:=by rfl) (hr:Region.ready md l.toArray listed=[i]:=by kernel_rfl) (hin:([i].all fun i=>decide (i<n))=true:=by kernel_rfl):HH P md l Q S n (f+1) listed a w:=
 HH.ready hr (by simp) hin (Za.cons ho h Za.nil)
theorem HH.done {listed:Array Bool} {a:Act} {w:World} (hB:Region.seqB md l.toArray (l.toArray.size - n) n listed=true) (h:wpList P l.toArray Q (l.drop n) a w):HH P md l Q S n 0 listed a w:=fun _ _=>⟨hB,h⟩
theorem xY {id:Nat} {a:Act} {w:World} (n:Nat) (hm:P.follows .mixedOrders=true) (hB:zb4 .any l.toArray n=true) (hS:S w.drew)
 (h:S w.drew->HH P .any l Q S n n (Array.replicate l.toArray.size false) a w.drew):(Code.region id l.toArray true).wp P Q a w:=by
 have r:n<l.toArray.size:=by
  have b :=hB
  unfold zb4 at b
  simp only [Bool.and_eq_true,decide_eq_true_eq] at b
  exact b.2
 have m:HeadInv .any l.toArray n (Array.replicate l.toArray.size false):=
  ⟨by simp,fun j oj _ hl=>(by rw [getD_replicate_false] at hl;cases hl),fun t _ ht=>getD_in (by simpa using ht) (getD_replicate_false _ _)⟩
 refine wp_region_any hm ?_
 have e:(l.drop n).length=l.toArray.size - n:=by simp
 have:=Yq (Q:=Q) (g:=l.toArray.size - n) (fun listed a' w' hL=>by
  have:=wpAny_of_seq (md:=.any) (Q' :=Q) (l.drop n) n listed a' w' (fun j=>by simp [List.getElem?_drop]) (by rw [e];exact hL.1) hL.2
  rwa [e] at this) _ _ _ _ (h hS m hB)
 rw [show n+(l.toArray.size - n)=l.toArray.size by omega] at this
 exact this
def VS (P:Program) (S:World->Prop) (R:Act->Prop):List Oper->Act->Prop
 | [],a=>R a
 | o :: rest,a=>∃ v,(∀ w,S w->(execOp a.eval o).run P w= .ok (.value v) w)/\VS P S R rest (a.put o.dst v)
theorem zD {R:Act->Prop} {a:Act} (h:R a):VS P S R [] a:=h
theorem zP {R:Act->Prop} {o:Oper} {rest:List Oper} {a b:Act} {v:Value} (h:VS P S R rest b)
 (hv:∀ w,S w->(execOp a.eval o).run P w= .ok (.value v) w:=by (intro j e;(try dsimp only at e);go_split_ands;go_simp;try with_reducible rfl))
 (hb:a.put o.dst v=b:=by (simp only [Act.put,xST];rfl)):VS P S R (o :: rest) a:=by
 subst hb
 exact ⟨v,hv,h⟩
theorem V1 {d:Nat} {w:World} (hQ:∀ k v c a w,Q (.panic c) (Act.put a (some k) v) w->Q (.panic c) a w) (hS:S w):
 ∀ (l' :List Oper) (k:Nat) (listed:Array Bool) (a:Act),(∀ j,j<l'.length->l'[j]?=l.toArray[k+j]?)->zti md l.toArray l'.length k listed=true->k+l'.length<=n->
  VS P S (fun a' =>HH P md l Q S n d (zty l'.length k listed) a' w) l' a->HH P md l Q S n (l'.length+d) listed a w
 | [],k,listed,a,_,_,_,h=>by
   rw [List.length_nil,Nat.zero_add];exact h
 | o :: l',k,listed,a,hl,hB,hk,h=>by
   have b:l.toArray[k]?=some o:=by simpa using (hl 0 (by simp)).symm
   simp only [List.length_cons,zti,Bool.and_eq_true,b] at hB;obtain ⟨⟨⟨y,m⟩,e⟩,r⟩:=hB;obtain ⟨v,u,z⟩:=h;rw [List.length_cons,show l'.length+1+d=(l'.length+d)+1 by omega];refine HH.take k b m y (by simp at hk;simp;omega) (fun c a w h=>?_) (.inl ⟨?_,u⟩) hS ?_
   . cases hd:o.dst with
     | none=>rw [hd] at h;exact h
     | some k=>rw [hd] at h;exact hQ k _ c a w h
   . cases hgd:o.guard with
     | none=>simp [Region.wanted,hgd]
     | some _=>rw [hgd] at e;simp at e
   . exact V1 hQ hS l' (k+1) _ _ (fun j hj=>by have:=hl (j+1) (by simp;omega);simpa [Nat.add_assoc,Nat.add_comm 1 j] using this) r (by simp at hk;omega) z
theorem XI {id:Nat} {a:Act} {w:World} (s d n:Nat) (hn:s+d=n) (hm:P.follows .mixedOrders=true) (hB:zb4 .any l.toArray n=true) (hP:zti .any l.toArray s 0 (Array.replicate l.toArray.size false)=true)
 (hl:(l.take s).length=s) (hS:S w.drew) (hQ:∀ k v c a w,Q (.panic c) (Act.put a (some k) v) w->Q (.panic c) a w)
 (h:S w.drew->VS P S (fun a' =>HH P .any l Q S n d (zty s 0 (Array.replicate l.toArray.size false)) a' w.drew) (l.take s) a):(Code.region id l.toArray true).wp P Q a w:=by
 refine xY n hm hB hS fun hS=>?_
 have:=V1 (P:=P) (l:=l) (S:=S) (md:=.any) (n:=n) (d:=d) hQ hS (l.take s) 0 (Array.replicate l.toArray.size false) a (fun j hj=>by
  rw [hl] at hj
  rw [List.getElem?_take,if_pos hj]
  simp) (by rw [hl];exact hP) (by rw [hl];omega) (by rw [hl];exact h hS)
 rw [hl,hn] at this
 exact this
end
section
variable {P:Program} {l:List Oper} {Q:Exit->Act->World->Prop} {S:World->Prop} {n:Nat}
theorem zbs {a:Act} {w:World} (n:Nat) (hB:zb4 .any l.toArray n=true)
 (h:HH P .any l Q S n n (Array.replicate l.toArray.size false) a w):wpAny P .any l.toArray Q l.toArray.size (Array.replicate l.toArray.size false) a w:=by
 have r:n<l.toArray.size:=by
  have b :=hB
  unfold zb4 at b
  simp only [Bool.and_eq_true,decide_eq_true_eq] at b
  exact b.2
 have m:HeadInv .any l.toArray n (Array.replicate l.toArray.size false):=
  ⟨by simp,fun j oj _ hl=>(by rw [getD_replicate_false] at hl;cases hl),fun t _ ht=>getD_in (by simpa using ht) (getD_replicate_false _ _)⟩
 have e:(l.drop n).length=l.toArray.size - n:=by simp
 have:=Yq (Q:=Q) (g:=l.toArray.size - n) (fun listed a' w' hL=>by
  have:=wpAny_of_seq (md:=.any) (Q' :=Q) (l.drop n) n listed a' w' (fun j=>by simp [List.getElem?_drop]) (by rw [e];exact hL.1) hL.2
  rwa [e] at this) _ _ _ _ (h m hB)
 rw [show n+(l.toArray.size - n)=l.toArray.size by omega] at this
 exact this
theorem Y4 {id:Nat} {a:Act} {w:World} (x j s d n:Nat) (hn:s+d=n) (hm:P.follows .mixedOrders=true) {ox:Oper} {t:Operand} {ix:Nat} (hox:l[x]?=some ox) (hop:ox.op= .extract t ix) (hg:ox.guard=none)
 (hF:zog .any l.toArray x j=true) (hB:zb4 .any (VX x j l).toArray n=true) (hP:zti .any (VX x j l).toArray s 0 (Array.replicate (VX x j l).toArray.size false)=true)
 (hl:((VX x j l).take s).length=s) (hS:S w.drew) (hQ:∀ k v c a w,Q (.panic c) (Act.put a (some k) v) w->Q (.panic c) a w) (hQ0:∀ v c a w,Q (.panic c) (Act.put a none v) w->Q (.panic c) a w)
 (h:S w.drew->VS P S (fun a' =>HH P .any (VX x j l) Q S n d (zty s 0 (Array.replicate (VX x j l).toArray.size false)) a' w.drew) ((VX x j l).take s) a):(Code.region id l.toArray true).wp P Q a w:=by
 refine wp_region_any hm ?_
 have b:=V1 (P:=P) (l:=VX x j l) (S:=S) (md:=.any) (n:=n) (d:=d) hQ hS ((VX x j l).take s) 0 (Array.replicate (VX x j l).toArray.size false) a (fun j' hj=>by
  rw [hl] at hj
  rw [List.getElem?_take,if_pos hj]
  simp) (by rw [hl];exact hP) (by rw [hl];omega) (by rw [hl];exact h hS)
 rw [hl,hn] at b
 have m:=zbs n hB b
 have e:=zid (md:=.any) hox hF hQ hQ0 (fun a w K h=>zfh (by rw [List.getElem?_toArray];exact hox) hop hg h) l.toArray.size (Array.replicate l.toArray.size false) a { w with drawn:=w.drawn+1 } (by simp) (by
  simpa [zby] using m)
 exact e
end
section
variable {P:Program} {l:List Oper} {Q:Exit->Act->World->Prop} {S0 F:World->Prop}
theorem XJ (kp:∀ w',S0 w' ->F w') {id:Nat} {a:Act} {w:World} (n:Nat) (hS:S0 w.drew)
 (h:S0 w.drew/\F w.drew->HH P .any l Q (fun w' =>S0 w' /\F w') n n (Array.replicate l.toArray.size false) a w.drew)
 (hm:P.follows .mixedOrders=true:=by kernel_rfl) (hB:zb4 .any l.toArray n=true:=by kernel_rfl):(Code.region id l.toArray true).wp P Q a w:=
 xY (S:=fun w' =>S0 w' /\F w') n hm hB ⟨hS,kp _ hS⟩ h
theorem xb (kp:∀ w',S0 w' ->F w') {id:Nat} {a:Act} {w:World} (s d n:Nat) (hS:S0 w.drew)
 (h:S0 w.drew/\F w.drew->VS P (fun w' =>S0 w' /\F w') (fun a' =>HH P .any l Q (fun w' =>S0 w' /\F w') n d (zty s 0 (Array.replicate l.toArray.size false)) a' w.drew) (l.take s) a)
 (hn:s+d=n:=by rfl) (hm:P.follows .mixedOrders=true:=by kernel_rfl) (hB:zb4 .any l.toArray n=true:=by kernel_rfl)
 (hP:zti .any l.toArray s 0 (Array.replicate l.toArray.size false)=true:=by kernel_rfl) (hl:(l.take s).length=s:=by rfl)
 (hQ:∀ k v c a w,Q (.panic c) (Act.put a (some k) v) w->Q (.panic c) a w:=by (intro _ _ _ _ _ b;exact b)):(Code.region id l.toArray true).wp P Q a w:=
 XI (S:=fun w' =>S0 w' /\F w') s d n hn hm hB hP hl ⟨hS,kp _ hS⟩ hQ h
theorem hdn {md:Region.Mode} {S:World->Prop} {n:Nat} {listed:Array Bool} {a:Act} {w:World} (h:wpList P l.toArray Q (l.drop n) a w)
 (hB:Region.seqB md l.toArray (l.toArray.size - n) n listed=true:=by kernel_rfl):HH P md l Q S n 0 listed a w:=HH.done hB h
theorem xDR {α:Type}:(∀ (a:α) (l:List α) (i:Nat),(a :: l).drop (i+1)=l.drop i)/\(∀ l:List α,l.drop 0=l)/\(∀ (a:α) (l:List α) (i:Nat),(a :: l).take (i+1)=a :: l.take i)/\(∀ l:List α,l.take 0=[]):=
 ⟨fun _ _ _=>rfl,fun _=>rfl,fun _ _ _=>rfl,fun _=>rfl⟩
end
section
variable {P:Program} {l:List Oper} {Q:Exit->Act->World->Prop} {md:Region.Mode} {S:World->Prop} {n:Nat}
def YQ:List (Nat×Nat)->(Nat->Value)->Act->Act
 | [],_,a=>a
 | p :: rs,us,a=>(YQ rs us a).put (some p.2) (us p.1)
def zlh (us:Nat->Value) (i:Nat) (v:Value):Nat->Value:=fun j=>if j=i then v else us j
theorem zpt {a:Act} {d e:Nat} {u v:Value} (h:d≠e):(a.put (some d) u).put (some e) v=(a.put (some e) v).put (some d) u:=by
 simp only [Act.put]
 rw [Array.setIfInBounds_comm _ _ h]
theorem zor {a:Act} {d:Nat} {u v:Value}:(a.put (some d) u).put (some d) v=a.put (some d) v:=by
 simp only [Act.put]
 rw [Array.setIfInBounds_setIfInBounds]
theorem V0 {us vs:Nat->Value} {a:Act}:∀ {rs:List (Nat×Nat)},(∀ p∈rs,us p.1=vs p.1)->YQ rs us a=YQ rs vs a
 | [],_=>rfl
 | p :: rs,h=>by
   unfold YQ;rw [V0 (fun q hq=>h q (List.mem_cons_of_mem _ hq)),h p uP]
theorem zjh {us:Nat->Value} {a:Act} {v:Value} {p:Nat×Nat}:∀ {rs:List (Nat×Nat)},(rs.map (·.1)).Nodup->(rs.map (·.2)).Nodup->p∈rs->(YQ rs us a).put (some p.2) v=YQ rs (zlh us p.1 v) a
 | [],_,_,h=>by cases h
 | q :: rs,h1,h2,h=>by
   rw [List.map_cons,List.nodup_cons] at h1 h2;unfold YQ
   rcases List.mem_cons.1 h with rfl | h
   . rw [zor]
     have:YQ rs us a=YQ rs (zlh us p.1 v) a:=V0 (fun r hr=>by
      unfold zlh
      rw [if_neg (fun e=>h1.1 (List.mem_map.2 ⟨r,hr,e⟩))])
     rw [this];unfold zlh;rw [if_pos rfl]
   . have b:q.2≠p.2:=fun e=>h2.1 (List.mem_map.2 ⟨p,h,e.symm⟩)
     have j:q.1≠p.1:=fun e=>h1.1 (List.mem_map.2 ⟨p,h,e.symm⟩)
     rw [zpt b,zjh h1.2 h2.2 h];unfold zlh;rw [if_neg j]
theorem zrp {a:Act} {d:Nat}:a.put (some d) (a.tmps.getD d undef)=a:=by
 obtain ⟨l,ds⟩:=a
 show Act.mk _ _=Act.mk _ _
 congr 1
 apply Array.ext
 . simp
 intro i j b
 rw [Array.getElem_setIfInBounds]
 split
 . rename_i e;subst e;simp [b]
 rfl
theorem zgg {a:Act}:∀ {rs:List (Nat×Nat)},(rs.map (·.1)).Nodup->∃ us,YQ rs us a=a
 | [],_=>⟨fun _=>undef,rfl⟩
 | p :: rs,h=>by
   rw [List.map_cons,List.nodup_cons] at h;obtain ⟨us,hu⟩:=zgg h.2;refine ⟨zlh us p.1 (a.tmps.getD p.2 undef),?_⟩;unfold YQ
   have:YQ rs (zlh us p.1 (a.tmps.getD p.2 undef)) a=YQ rs us a:=V0 (fun q hq=>by
    unfold zlh
    rw [if_neg (fun e=>h.1 (List.mem_map.2 ⟨q,hq,e⟩))])
   rw [this,hu];unfold zlh;rw [if_pos rfl];exact zrp
def zaf:Value->Nat
 | .pointer (some a)=>a.block
 | .slice (some a) _ _=>a.block
 | _=>0
def zvc (md:Region.Mode) (o:Oper) (j:Nat):Bool:=o.after.any fun e=>Region.binds md e && e.on == j
def zl9 (listed:Array Bool):List (Nat×Nat)->Array Bool
 | []=>listed
 | p :: rs=>(zl9 listed rs).setIfInBounds p.1 true
def ogB (md:Region.Mode) (l:List Oper) (n f:Nat) (listed:Array Bool) (rs:List (Nat×Nat)):Bool:=
 decide (rs.length=f) && decide ((rs.map (·.1)).Nodup) && decide ((rs.map (·.2)).Nodup) && (rs.all fun p=>decide (p.1<n) && !listed.getD p.1 true && ((l[p.1]?).map fun o=>o.dst == some p.2 && o.guard.isNone).getD false) &&
  ((List.range n).all fun i=>listed.getD i true || rs.any fun p=>p.1 == i) && ((List.range n).all fun i=>((l[i]?).map fun o=>o.after.all fun e=>decide (e.on<i)).getD false) && Region.seqB md l.toArray (l.toArray.size - n) n (zl9 listed rs)
def vY (P:Program) (md:Region.Mode) (l:List Oper) (Q:Exit->Act->World->Prop) (S:World->Prop) (St:World->World->Prop) (R:Nat->Value->World->Prop) (al:List Nat) (rs:List (Nat×Nat)) (a:Act) (p:Nat×Nat):Prop:=
 ∀ o,l.toArray[p.1]?=some o->∀ (us:Nat->Value) (w:World),S w->(∀ j,((rs.any fun q=>q.1 == j) && zvc md o j)=true->R j (us j) w)->∀ K' :Act->World->Prop,
  (∀ a' w',(∃ v,a' =(YQ rs us a).put (some p.2) v/\S w' /\St w w' /\R p.1 v w' /\(al.contains p.1=true->w.heap.size<=zaf v))->K' a' w')->Oper.wp P o (YQ rs us a) w K' Q
theorem zem {ops:Array Oper} {listed:Array Bool} (hback:∀ i,i<n->∃ o,ops[i]?=some o/\∀ e∈o.after,e.on<i) (hsz:listed.size=ops.size):
 ∀ i,i<n->listed.getD i true=false->∃ r,r∈Region.ready md ops listed:=by
 intro i
 induction i using Nat.strongRecOn with
 | _ i ih=>
   intro hi y;obtain ⟨o,l,hb⟩:=hback i hi
   by_cases j:∀ e∈o.after,Region.binds md e=true->listed.getD e.on false=true
   . exact ⟨i,mem_ready.2 ⟨y,o,l,j⟩⟩
   have:∃ e∈o.after,¬ listed.getD e.on false=true:=Classical.byContradiction (fun h=>j (fun e b _=>Classical.byContradiction (fun h' =>h ⟨e,b,h'⟩)))
   obtain ⟨e,b,m⟩:=this;have u:=hb e b;have z:i<ops.size:=(Array.getElem?_eq_some_iff.1 l).1;exact ih e.on u (by omega) (getD_in (by omega) (by simpa using m))
theorem zga (listed:Array Bool):∀ rs:List (Nat×Nat),(zl9 listed rs).size=listed.size
 | []=>rfl
 | p :: rs=>by unfold zl9;rw [Array.size_setIfInBounds];exact zga listed rs
theorem zit (listed:Array Bool) (i:Nat):∀ rs:List (Nat×Nat),(zl9 listed rs).getD i true=(listed.getD i true || rs.any fun p=>p.1 == i)
 | []=>by simp [zl9]
 | p :: rs=>by
   have b:=zit listed i rs;unfold zl9;rw [List.any_cons]
   by_cases e:p.1=i
   rotate_left
   . rw [_root_.Go.getD_set_ne true e,b]
     have:(p.1 == i)=false:=by simpa using e
     rw [this,Bool.false_or]
   rw [e]
   have j:((zl9 listed rs).setIfInBounds i true).getD i true=true:=by
    simp [Array.getElem?_setIfInBounds]
    split<;>simp
   rw [j];simp
theorem zbo {α:Type} {q:Nat×α->Bool} {p:Nat×α}:∀ {rs:List (Nat×α)},(rs.map (·.1)).Nodup->p∈rs->q p=true->(rs.filter fun x=>q x && !(x.1 == p.1)).length+1=(rs.filter q).length
 | [],_,h,_=>by cases h
 | r :: rs,hn,h,hq=>by
   rw [List.map_cons,List.nodup_cons] at hn
   rcases List.mem_cons.1 h with rfl | h
   . have e:rs.filter (fun x=>q x && !(x.1 == p.1))=rs.filter q:=List.filter_congr (fun x hx=>by
      have:¬ x.1=p.1:=fun e=>hn.1 (List.mem_map.2 ⟨x,hx,e⟩)
      simp [this])
     rw [List.filter_cons_of_pos hq,List.filter_cons_of_neg (by simp),List.length_cons,e]
   . have l:¬ r.1=p.1:=fun e=>hn.1 (List.mem_map.2 ⟨p,h,e.symm⟩)
     have j:=zbo hn.2 h hq
     by_cases b:q r=true
     . rw [List.filter_cons_of_pos b,List.filter_cons_of_pos (by simp [b,l]),List.length_cons,List.length_cons,j]
     rw [List.filter_cons_of_neg b,List.filter_cons_of_neg (by simp [b]),j]
theorem zul {L:Array Bool->Act->World->Prop} {listed:Array Bool} {a:Act} {rs:List (Nat×Nat)} {al:List Nat} {R:Nat->Value->World->Prop} {St:World->World->Prop}
 (inv0:HeadInv md l.toArray n listed) (hs:Region.sinkB md l.toArray n=true) (hc:Region.chainB md l.toArray n=true) (hn:n<l.toArray.size)
 (hn1:(rs.map (·.1)).Nodup) (hn2:(rs.map (·.2)).Nodup) (hrs:∀ p∈rs,p.1<n/\listed.getD p.1 true=false/\∃ o,l.toArray[p.1]?=some o/\o.dst=some p.2/\o.guard=none)
 (hcov:∀ i,i<n->listed.getD i true=true\/∃ p∈rs,p.1=i) (hback:∀ i,i<n->∃ o,l.toArray[i]?=some o/\∀ e∈o.after,e.on<i)
 (hst:∀ i v w w',S w->S w' ->St w w' ->R i v w->R i v w') (hsz:∀ w w',St w w' ->w.heap.size<=w'.heap.size) (hfr:∀ i v w,al.contains i=true->R i v w->zaf v<w.heap.size)
 (hstep:∀ p∈rs,vY P md l Q S St R al rs a p)
 (hend:∀ b us w',b =zl9 listed rs->S w' ->(∀ p∈rs,R p.1 (us p.1) w')->(∀ p∈rs,∀ q∈rs,al.contains p.1=true->al.contains q.1=true->p.1≠q.1->zaf (us p.1)≠zaf (us q.1))->L b (YQ rs us a) w'):
 ∀ (f:Nat) (b :Array Bool) (us:Nat->Value) (w' :World),HeadInv md l.toArray n b ->(∀ i,listed.getD i true=true->b.getD i true=true)->S w' ->
  (∀ p∈rs,b.getD p.1 true=true->R p.1 (us p.1) w')->
  (∀ p∈rs,∀ q∈rs,b.getD p.1 true=true->b.getD q.1 true=true->al.contains p.1=true->al.contains q.1=true->p.1≠q.1->zaf (us p.1)≠zaf (us q.1))->
  (rs.filter fun p=> !b.getD p.1 true).length=f->zlc P md l.toArray Q S n L f b (YQ rs us a) w' :=by
 intro f
 induction f with
 | zero=>
   intro b us w' E K hS G T I
   have F:∀ p∈rs,b.getD p.1 true=true:=fun p m=>by
    have:=uI I;rw [List.filter_eq_nil_iff] at this
    simpa using this p m
   refine hend b us w' ?_ hS (fun p m=>G p m (F p m)) (fun p m q u=>T p m q u (F p m) (F q u));have hz:b.size=listed.size:=E.size.trans inv0.size.symm
   apply Array.ext
   . rw [zga,hz]
   intro i y B
   have D:b.getD i true=b[i]:=by simp [y]
   have C:(zl9 listed rs).getD i true=(zl9 listed rs)[i]:=by simp [B]
   rw [<- D, <- C,zit]
   rcases uL i n with h | h
   . rcases hcov i h with z | ⟨p,m,rfl⟩
     . rw [z,K i z];rfl
     . rw [F p m,List.any_eq_true.2 ⟨p,m,by simp⟩,Bool.or_true]
   . have z:i<l.toArray.size:=by rw [<- E.size];exact y
     rw [E.tail i h z,inv0.tail i h z,Bool.false_or]
     cases h4:rs.any fun p=>p.1 == i with
     | false=>rfl
     | true=>
       obtain ⟨p,m,e⟩:=List.any_eq_true.1 h4;have e:p.1=i:=by simpa using e
       have:=(hrs p m).1
       omega
 | succ f ih=>
   intro b us w' E K hS G T I
   have ae:∃ p∈rs,b.getD p.1 true=false:=by
    have O:rs.filter (fun p=> !b.getD p.1 true)≠[]:=fun e=>by rw [e] at I;cases I
    obtain ⟨p,m⟩:=List.exists_mem_of_ne_nil _ O;rw [List.mem_filter] at m;exact ⟨p,m.1,by simpa using m.2⟩
   obtain ⟨p0,ac,aa⟩:=ae;obtain ⟨r0,ab⟩:=zem (md:=md) hback E.size p0.1 (hrs p0 ac).1 aa;refine ⟨fun e=>(by rw [e] at ab;cases ab),fun i hi=>?_⟩
   have V:i<n:=by
    rcases uL i n with h | h
    . exact h
    . exact absurd hi (tail_waits hs hc hn E _ p0.1 rfl (hrs p0 ac).1 aa i h)
   refine ⟨V,?_⟩;obtain ⟨J,oi,M,F⟩:=mem_ready.1 hi
   have af:∃ p∈rs,p.1=i:=by
    rcases hcov i V with h | h
    . rw [K i h] at J;cases J
    . exact h
   obtain ⟨p,m,rfl⟩:=af;obtain ⟨_,_,o,U,ah,hg⟩:=hrs p m;rw [U] at M;injection M with M
   subst M;refine wpOp_step U fun K' hK=>?_;have hw:Region.wanted o (yielded l.toArray (YQ rs us a).tmps)=true:=by simp [Region.wanted,hg]
   rw [if_pos hw];refine hstep p m o U us w' hS (fun j hj=>?_) K' ?_
   . rw [Bool.and_eq_true] at hj
     obtain ⟨q,u,e⟩:=List.any_eq_true.1 hj.1;have e:q.1=j:=by simpa using e
     subst e;refine G q u ?_;unfold zvc at hj
     obtain ⟨e,Y,hb⟩:∃ e∈o.after,(Region.binds md e && e.on == q.1)=true:=by
      have h9:=hj.2;rw [<- Array.any_toList,List.any_eq_true] at h9;obtain ⟨e,Y,hb⟩:=h9;exact ⟨e,by simpa using Y,hb⟩
     rw [Bool.and_eq_true] at hb;have y:=F e Y hb.1;have B:e.on=q.1:=by simpa using hb.2
     rw [B] at y
     cases z:b.getD q.1 true with
     | true=>rfl
     | false=>rw [getD_both z] at y;cases y
   rintro a' w2 ⟨v,rfl,X,ag,ad,Z⟩
   refine hK _ _ ⟨X,?_⟩;rw [zjh hn1 hn2 m]
   have N:∀ q∈rs,(b.setIfInBounds p.1 true).getD q.1 true=true->q.1=p.1\/(q.1≠p.1/\b.getD q.1 true=true):=fun q u h=>by
    by_cases e:q.1=p.1
    . exact .inl e
    rw [_root_.Go.getD_set_ne true (fun e' =>e e'.symm)] at h
    exact .inr ⟨e,h⟩
   refine ih (b.setIfInBounds p.1 true) (zlh us p.1 v) w2 (E.set hi V) (fun i h=>?_) X (fun q u h=>?_) (fun q u r hr y B z h4 h5=>?_) ?_
   . by_cases e:p.1=i
     rotate_left
     . rw [_root_.Go.getD_set_ne true e];exact K i h
     subst e
     simp [Array.getElem?_setIfInBounds]
     split<;>simp
   . unfold zlh
     rcases N q u h with e | ⟨e,h⟩
     . rw [e,if_pos rfl];exact ad
     . rw [if_neg e];exact hst _ _ _ _ hS X ag (G q u h)
   . unfold zlh
     rcases N q u y with D | ⟨D,y⟩<;>rcases N r hr B with C | ⟨C,B⟩
     . exact absurd (D.trans C.symm) h5
     . rw [D,if_pos rfl,if_neg C]
       have:=hfr r.1 (us r.1) w' h4 (G r hr B);have:=Z (by rw [<- D];exact z)
       omega
     . rw [C,if_pos rfl,if_neg D]
       have:=hfr q.1 (us q.1) w' z (G q u y);have:=Z (by rw [<- C];exact h4)
       omega
     . rw [if_neg D,if_neg C];exact T q u r hr y B z h4 h5
   . have y:=zbo (q:=fun p=> !b.getD p.1 true) hn1 m (by simp only [J];rfl)
     have B:(rs.filter fun x=> !(b.setIfInBounds p.1 true).getD x.1 true)=rs.filter fun x=>(!b.getD x.1 true) && !(x.1 == p.1):=List.filter_congr (fun x hx=>by
      by_cases e:x.1=p.1
      . rw [e,J]
        have O:(b.setIfInBounds p.1 true).getD p.1 true=true:=by
         simp [Array.getElem?_setIfInBounds]
         split<;>simp
        rw [O];simp
      . rw [_root_.Go.getD_set_ne true (fun e' =>e e'.symm)]
        have:(x.1 == p.1)=false:=by simpa using e
        rw [this];simp)
     rw [B]
     omega
theorem HH.og {f:Nat} {listed:Array Bool} {a:Act} {w:World} (rs:List (Nat×Nat)) (al:List Nat) (R:Nat->Value->World->Prop) (St:World->World->Prop) (hS:S w)
 (hst:∀ i v w w',S w->S w' ->St w w' ->R i v w->R i v w') (hsz:∀ w w',St w w' ->w.heap.size<=w'.heap.size) (hfr:∀ i v w,al.contains i=true->R i v w->zaf v<w.heap.size)
 (hstep:∀ p∈rs,vY P md l Q S St R al rs a p)
 (hend:∀ us w',S w' ->(∀ p∈rs,R p.1 (us p.1) w')->(∀ p∈rs,∀ q∈rs,al.contains p.1=true->al.contains q.1=true->p.1≠q.1->zaf (us p.1)≠zaf (us q.1))->wpList P l.toArray Q (l.drop n) (YQ rs us a) w')
 (hog:ogB md l n f listed rs=true:=by kernel_rfl):HH P md l Q S n f listed a w:=fun inv hB=>by
 unfold zb4 at hB
 simp only [Bool.and_eq_true,decide_eq_true_eq] at hB
 obtain ⟨⟨⟨M,F⟩,K⟩,L⟩:=hB
 unfold ogB at hog
 simp only [Bool.and_eq_true,decide_eq_true_eq] at hog
 obtain ⟨⟨⟨⟨⟨⟨C,m⟩,I⟩,z⟩,E⟩,u⟩,D⟩:=hog
 have j:∀ p∈rs,p.1<n/\listed.getD p.1 true=false/\∃ o,l.toArray[p.1]?=some o/\o.dst=some p.2/\o.guard=none:=fun p b=>by
  have:=List.all_eq_true.1 z p b
  simp only [Bool.and_eq_true,decide_eq_true_eq,Bool.not_eq_true'] at this
  obtain ⟨⟨y,r⟩,t3⟩:=this
  refine ⟨y,r,?_⟩
  cases ho:l[p.1]? with
  | none=>rw [ho] at t3;cases t3
  | some o=>
    rw [ho] at t3;simp only [Option.map_some,Option.getD_some,Bool.and_eq_true] at t3;exact ⟨o,by rw [List.getElem?_toArray];exact ho,by simpa using t3.1,by simpa using t3.2⟩
 have B:∀ i,i<n->listed.getD i true=true\/∃ p∈rs,p.1=i:=fun i hi=>by
  have:=List.all_eq_true.1 E i (List.mem_range.2 hi)
  rw [Bool.or_eq_true] at this
  rcases this with h | h
  . exact .inl h
  . obtain ⟨p,b,e⟩:=List.any_eq_true.1 h
    exact .inr ⟨p,b,by simpa using e⟩
 have G:∀ i,i<n->∃ o,l.toArray[i]?=some o/\∀ e∈o.after,e.on<i:=fun i hi=>by
  have:=List.all_eq_true.1 u i (List.mem_range.2 hi)
  cases ho:l[i]? with
  | none=>rw [ho] at this;cases this
  | some o=>
    rw [ho] at this;simp only [Option.map_some,Option.getD_some] at this
    exact ⟨o,by rw [List.getElem?_toArray];exact ho,fun e he=>by
     have:=Array.all_eq_true_iff_forall_mem.1 this e he
     simpa using this⟩
 obtain ⟨us,hu⟩:=zgg (a:=a) (rs:=rs) m
 rw [<- hu]
 have J :∀ p∈rs,vY P md l Q S St R al rs a p:=hstep
 refine zul (listed:=listed) (St:=St) (R:=R) (al:=al) inv F K L m I j B G hst hsz hfr J (fun listed' us w' e hS' hR hA=>⟨by rw [e];exact D,hend us w' hS' hR hA⟩) f listed us w inv (fun _ h=>h) hS (fun p b h=>?_) (fun p b q hq h=>?_) ?_
 . rw [(j p b).2.1] at h;cases h
 . rw [(j p b).2.1] at h;cases h
 . rw [List.filter_eq_self.2 (fun p b=>by rw [(j p b).2.1];rfl)]
   exact C
end
end Go.Proofs.YtofmkndhocinmaaGreatDoor
