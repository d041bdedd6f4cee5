/- Parts of the proof: memory, numbers, walks of the functions that are called. -/
import Derived.Scope
import Derived.WalkMore
import Derived.Test.YtacfcmdlgebhgaaGreatMg12
set_option linter.unusedVariables false
set_option linter.unusedSimpArgs false
namespace Go.Proofs.YtacfcmdlgebhgaaGreat
open Go.RowKit
def zfx (J0 J1:Act->World->Prop) (Q:Exit->Act->World->Prop):Exit->Act->World->Prop
 | .goto l,a,w=>(l=0/\J0 a w)\/(l=1/\J1 a w)
 | e,a,w=>Q e a w
section
variable {P:Program} {Q:Exit->Act->World->Prop} {J0 J1:Act->World->Prop} {a:Act} {w:World}
theorem zjv:zfx J0 J1 Q .normal a w=Q .normal a w:=rfl
theorem zoy (id:Nat):zfx J0 J1 Q (.exit id) a w=Q (.exit id) a w:=rfl
theorem zit:zfx J0 J1 Q .ret a w=Q .ret a w:=rfl
theorem zmi (ch:List PanicEntry):zfx J0 J1 Q (.panic ch) a w=Q (.panic ch) a w:=rfl
end
theorem zj3 {P:Program} {a:Act} {w:World} {Q:Exit->Act->World->Prop} {c r0 r1:Code} (J0 J1:Nat->Act->World->Prop) (h0:findLabel c 0=some r0) (h1:findLabel c 1=some (.seq .skip r1))
 (pass1:∀ n a w,J1 n a w->r1.wp P (zfx (fun a w=>∃ m,m<n/\J0 m a w) (fun a w=>∃ m,m<n/\J1 m a w) Q) a w)
 (pass0:∀ n a w,J0 n a w->r0.wp P (zfx (fun a w=>∃ m,m<n/\J0 m a w) (fun a w=>∃ m,m<n/\J1 m a w) Q) a w)
 (first:(∀ n a w,J1 n a w->r1.wp P (zfx (fun a w=>∃ m,J0 m a w) (fun a w=>∃ m,J1 m a w) Q) a w)->c.wp P (zfx (fun a w=>∃ m,J0 m a w) (fun a w=>∃ m,J1 m a w) Q) a w):(Code.scope c).wp P Q a w:=by
 have pass1s:∀ n a w,J1 n a w->(Code.seq .skip r1).wp P (zfx (fun a w=>∃ m,m<n/\J0 m a w) (fun a w=>∃ m,m<n/\J1 m a w) Q) a w:=fun n a w hJ=>wp_seq (wp_skip (pass1 n a w hJ))
 have weak:∀ n a w,J1 n a w->r1.wp P (zfx (fun a w=>∃ m,J0 m a w) (fun a w=>∃ m,J1 m a w) Q) a w:=by
  intro n a w hJ
  refine wp_mono (pass1 n a w hJ) ?_
  intro e a' w' hq
  cases e with
  | goto l=>
    rcases hq with ⟨hl,m,_,hm⟩ | ⟨hl,m,_,hm⟩
    . exact .inl ⟨hl,m,hm⟩
    . exact .inr ⟨hl,m,hm⟩
  | normal=>exact hq
  | exit id=>exact hq
  | ret=>exact hq
  | panic ch=>exact hq
  | outgrown=>exact hq
 have first:=first weak
 intro b k cs
 have hg0:gotoIn 0 (.inScope c :: k)=some (.code r0 :: .inScope c :: k):=by simp [gotoIn,h0]
 have hg1:gotoIn 1 (.inScope c :: k)=some (.code (.seq .skip r1) :: .inScope c :: k):=by simp [gotoIn,h1]
 have key:∀ n,(∀ a w,J0 n a w->∃ e a' w',Q e a' w' /\Arrives P (lone (b.at a (.code r0 :: .inScope c :: k)) cs w) b k cs e a' w')/\
  (∀ a w,J1 n a w->∃ e a' w',Q e a' w' /\Arrives P (lone (b.at a (.code (.seq .skip r1) :: .inScope c :: k)) cs w) b k cs e a' w'):=by
  intro n
  induction n using Nat.strongRecOn with
  | _ n ih=>
    constructor
    . intro a w hJ
      obtain ⟨e,a₁,w₁,hq,harr⟩:=pass0 n a w hJ b (.inScope c :: k) cs
      cases e with
      | normal=>exact ⟨.normal,a₁,w₁,hq,Steps.trans harr (.one step_inScope)⟩
      | exit id=>exact ⟨.exit id,a₁,w₁,hq,fun k' hk=>harr k' (by simp [exitTo,hk])⟩
      | goto l' =>
        rcases hq with ⟨rfl,m,hlt,hm⟩ | ⟨rfl,m,hlt,hm⟩
        . obtain ⟨e₂,a₂,w₂,hq₂,harr₂⟩:=(ih m hlt).1 a₁ w₁ hm
          exact ⟨e₂,a₂,w₂,hq₂,.of_steps (harr _ hg0) harr₂⟩
        . obtain ⟨e₂,a₂,w₂,hq₂,harr₂⟩:=(ih m hlt).2 a₁ w₁ hm
          exact ⟨e₂,a₂,w₂,hq₂,.of_steps (harr _ hg1) harr₂⟩
      | ret=>exact ⟨_,a₁,w₁,hq,harr⟩
      | panic ch=>exact ⟨_,a₁,w₁,hq,harr⟩
      | outgrown=>exact ⟨_,a₁,w₁,hq,harr⟩
    intro a w hJ
    obtain ⟨e,a₁,w₁,hq,harr⟩:=pass1s n a w hJ b (.inScope c :: k) cs
    cases e with
    | normal=>exact ⟨.normal,a₁,w₁,hq,Steps.trans harr (.one step_inScope)⟩
    | exit id=>exact ⟨.exit id,a₁,w₁,hq,fun k' hk=>harr k' (by simp [exitTo,hk])⟩
    | goto l' =>
      rcases hq with ⟨rfl,m,hlt,hm⟩ | ⟨rfl,m,hlt,hm⟩
      . obtain ⟨e₂,a₂,w₂,hq₂,harr₂⟩:=(ih m hlt).1 a₁ w₁ hm
        exact ⟨e₂,a₂,w₂,hq₂,.of_steps (harr _ hg0) harr₂⟩
      . obtain ⟨e₂,a₂,w₂,hq₂,harr₂⟩:=(ih m hlt).2 a₁ w₁ hm
        exact ⟨e₂,a₂,w₂,hq₂,.of_steps (harr _ hg1) harr₂⟩
    | ret=>exact ⟨_,a₁,w₁,hq,harr⟩
    | panic ch=>exact ⟨_,a₁,w₁,hq,harr⟩
    | outgrown=>exact ⟨_,a₁,w₁,hq,harr⟩
 obtain ⟨e,a₁,w₁,hq,harr⟩:=first b (.inScope c :: k) cs
 cases e with
 | normal=>exact ⟨.normal,a₁,w₁,hq,.head step_scope (Steps.trans harr (.one step_inScope))⟩
 | exit id=>exact ⟨.exit id,a₁,w₁,hq,fun k' hk=>.head step_scope (harr k' (by simp [exitTo,hk]))⟩
 | goto l' =>
   rcases hq with ⟨rfl,m,hm⟩ | ⟨rfl,m,hm⟩
   . obtain ⟨e₂,a₂,w₂,hq₂,harr₂⟩:=(key m).1 a₁ w₁ hm
     exact ⟨e₂,a₂,w₂,hq₂,.of_steps (.head step_scope (harr _ hg0)) harr₂⟩
   . obtain ⟨e₂,a₂,w₂,hq₂,harr₂⟩:=(key m).2 a₁ w₁ hm
     exact ⟨e₂,a₂,w₂,hq₂,.of_steps (.head step_scope (harr _ hg1)) harr₂⟩
 | ret=>exact ⟨_,a₁,w₁,hq,.of_steps (.one step_scope) harr⟩
 | panic ch=>exact ⟨_,a₁,w₁,hq,.of_steps (.one step_scope) harr⟩
 | outgrown=>exact ⟨_,a₁,w₁,hq,.of_steps (.one step_scope) harr⟩
end Go.Proofs.YtacfcmdlgebhgaaGreat
