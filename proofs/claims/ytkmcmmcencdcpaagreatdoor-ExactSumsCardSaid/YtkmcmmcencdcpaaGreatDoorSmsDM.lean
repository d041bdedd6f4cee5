/- ExactSums: the tied card. -/
import Derived.Test.YtkmcmmcencdcpaaGreatDoorMt42
set_option linter.unusedVariables false
set_option linter.unusedSimpArgs false
namespace Go.Proofs.YtkmcmmcencdcpaaGreatDoor
open Go.ChangeShapes Go.WideShapes Go.ChangeAt Go.WideMaps Go.ChangeMaps Go.RowKit
set_option maxHeartbeats 40000000 in
theorem ziz:joinedFacts Tryz.prog 4 Tryz.f4 Rows.exactSumsSpec Rows.exactSumsRow=true:=by
 simp only [joinedFacts,Bool.and_eq_true]
 repeat' apply And.intro
 all_goals as_aux_lemma=>kernel_rfl
theorem zjv:Tryz.prog.funcNamed Rows.exactSumsRow.func=some 4:=by kernel_rfl
theorem zmy:Tryz.f4.isInstance Tryz.prog Rows.exactSumsRow.origin Rows.exactSumsRow.targs:=of_decide_eq_true (by kernel_rfl)
theorem zod:Tryz.f4.isWrapper Tryz.prog Rows.exactSumsRow.wrapper Rows.exactSumsRow.mainSum:=by unfold Func.isWrapper;first | (rw [if_pos (by decide+kernel)];kernel_rfl) | (rw [if_neg (by decide+kernel)];exact ⟨rfl,rfl⟩)
theorem law_holds:Rows.ExactSumsSaid:=
 OpenClaim.holds_of_wide 4 Tryz.f4 rfl rfl rfl rfl rfl rfl rfl ⟨rfl,rfl,rfl,rfl,rfl⟩ rfl rfl rfl rfl rfl zjv Tryz.func4 ziz
  zmy zod (fun os started H enc _=>law_lifted os started H enc)
theorem card_holds:Rows.ExactSumsCardSaid:=
 Claim7.holds_tied_plain_at .later [] [.data,.pinned] true (true, "4f05c6c2cfbb880790e89fba6d0fa362360480c0193dfd62978be8304caeb377") false law_holds (fun _ h=>by cases h) (by kernel_rfl) (fun _ h=>by cases h) exactSums_row_tie rfl ⟨rfl,rfl⟩ (by kernel_rfl) rfl
  (fun f fn hf hfn=>by
    obtain rfl:f=4:=Option.some.inj ((show Tryz.prog.funcNamed "underpin/underpinlaw01.ExactSums" =some 4 by kernel_rfl).symm.trans hf) |>.symm;obtain rfl:fn=Tryz.f4:=(Option.some.inj (Tryz.func4.symm.trans hfn)).symm
    exact ⟨by kernel_rfl,fun j t ht=>by
     rw [Tryz.params4] at ht;have hm:t∈[22,30,31]:=by have:=Array.mem_of_getElem? ht;simp at this |-;omega
     have hall:([22,30,31].all fun u=> !Tryz.prog.wantsStandIn u)=true:=by kernel_rfl
     exact (show Tryz.prog.wantsStandIn t=false by simpa using List.all_eq_true.1 hall t hm)⟩)
  (by kernel_rfl)
end Go.Proofs.YtkmcmmcencdcpaaGreatDoor
