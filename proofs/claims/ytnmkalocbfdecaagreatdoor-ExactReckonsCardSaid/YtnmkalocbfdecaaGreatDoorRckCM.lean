/- ExactReckons: the row and its tied card. -/
import Derived.ChangeMaps5
import Derived.LaidMore
import Derived.Lay
import Derived.OpenShut
import Derived.ProofKit
import Derived.SevenTiedAt
import Derived.Stop.Joined
import Derived.Test.YtnmkalocbfdecaaGreatDoorCards
import Derived.Test.YtnmkalocbfdecaaGreatDoorTie
import Derived.Test.YtnmkalocbfdecaaGreatDoorMg40
set_option linter.unusedVariables false
set_option linter.unusedSimpArgs false
namespace Go.Proofs.YtnmkalocbfdecaaGreatDoor
open Go.ChangeShapes Go.WideShapes Go.ChangeAt Go.WideMaps Go.ChangeMaps Go.RowKit
theorem Tryz.own_:ownKnob Tryz.prog.godebug=none:=by kernel_rfl
set_option maxRecDepth 100000 in
theorem law_lifted (os:Os) (started:os.Started) (H:Type) (enc:TypeId×Value->H):
 ReturnsInHanded {} Tryz.checked os 3 .any (fun w args=>(Rows.exactReckonsSpec.pre enc Tryz.prog Tryz.f3 Rows.exactReckonsRow.domain false w args/\laidMetH Tryz.prog Rows.exactReckonsRow.laid w)/\sizedMet enc Tryz.prog Tryz.f3 (OpenSpec.ofChange Rows.exactReckonsSpec) false w args)
  (Rows.exactReckonsSpec.post enc Tryz.prog Tryz.f3 false true false false):=by
 refine returnsInHanded_of_change_and (C:=Tryz.checked) (X:=fun w _=>laidMetH Tryz.prog Rows.exactReckonsRow.laid w) (fun _ _ _ hh h=>h.of_heap hh) Tryz.own_ started (by kernel_rfl) Tryz.func3
  (ChangeSpec.witness_shaped (enc:=enc) (C:=Tryz.checked) (os:=os) (X:=fun w _=>laidMetH Tryz.prog Rows.exactReckonsRow.laid w) false (World.laidAll Tryz.prog os Rows.exactReckonsRow.laid) #[.string ⟨#[]⟩,.string ⟨#[]⟩] 8 (World.laidAll_os _ _ _)
    (World.shaped_of_ZipB (by kernel_rfl) (by kernel_rfl)) (by kernel_rfl) (by kernel_rfl) (by kernel_rfl)
    (by rw [MakeChecks.laidMetH_plain _ _ _ (by kernel_rfl)];exact laidMet_laidAll _ (by kernel_rfl) (by kernel_rfl))) ?_
 intro W base args ds gs before hval0 hW hc hsz0 hL _
 have hsz:(DataW.weightsEach Tryz.prog (Tryz.f3.params.toList ++ Rows.exactReckonsSpec.plain.varTypes Tryz.prog) (ds ++ gs)).all (· <=reachBytes)=true:=hsz0
 clear hsz0
 have hval:∀ (j:Nat) t v,Tryz.f3.params[j]?=some t->args[j]?=some v->Value.okWide Tryz.prog W .any base t v:=hval0
 have hW' :=hW
 obtain ⟨p,q,hA0,hV,rfl,_,_⟩:=hW
 have hA:DataW.TrodAll enc Tryz.prog W 0 (fun _=>true) true Tryz.f3.params.toList args.toList ds p:=hA0
 rw [Tryz.params3] at hA hval hsz
 obtain ⟨v0,v1,d0,d1,p0,p1,rfl,rfl,rfl,h0,h1⟩:=trodAll_two hA
 obtain ⟨rfl,rfl⟩:=trodVars_none hV
 clear hA0 hval0
 obtain ⟨s0,rfl,rfl,rfl,hs0⟩:=open_string Tryz.underlying22 (hval 0 22 v0 rfl rfl) h0
 obtain ⟨s1,rfl,rfl,rfl,hs1⟩:=open_string Tryz.underlying22 (hval 1 22 v1 rfl rfl) h1
 have hz0:s0.size<=reachBytes:=by
  rw [List.all_eq_true] at hsz
  have:=hsz s0.data.toList.length (by simp [DataW.weightsEach,DataW.weights])
  simpa using this
 have hz1:s1.size<=reachBytes:=by
  rw [List.all_eq_true] at hsz
  have:=hsz s1.data.toList.length (by simp [DataW.weightsEach,DataW.weights])
  simpa using this
 simp only [List.append_nil] at hW'
 refine (zfa s0 s1 W hz0 hz1).mono ?_
 rintro e W' ⟨rfl,hb⟩
 refine ⟨_,rfl,_,_,_,[],[],[],hW',?_,?_,rfl,hb.frame _,fun h=>by cases h⟩
 . exact trodAll_mk1 (shut_bool Tryz.underlying4 _)
 . exact trodAll_mk2 (shut_string Tryz.underlying22 hs0) (shut_string Tryz.underlying22 hs1)
theorem law_holds:Rows.ExactReckonsSaid:=
 OpenClaim.holds_of_wide 3 Tryz.f3 rfl rfl rfl rfl rfl rfl rfl ⟨rfl,rfl,rfl,rfl,rfl⟩ rfl rfl rfl rfl rfl (by kernel_rfl) Tryz.func3 (by kernel_rfl)
  (of_decide_eq_true (by kernel_rfl)) (by unfold Func.isWrapper;first | (rw [if_pos (by decide+kernel)];kernel_rfl) | (rw [if_neg (by decide+kernel)];exact ⟨rfl,rfl⟩))
  (fun os started H enc _=>law_lifted os started H enc)
theorem zoe:Rows.ExactReckonsCardSaid:=
 Claim7.holds_tied_plain_at .later [] [.data,.pinned] true (true, "30ae7730b51eca365f93c47c1ac6470153e16418ded63ecadea5b6cdf16fc7d6") false law_holds (fun _ h=>by cases h) (by kernel_rfl) (fun _ h=>by cases h) exactReckons_row_tie rfl ⟨rfl,rfl⟩ (by kernel_rfl) rfl
  (fun f fn hf hfn=>by
    obtain rfl:f=3:=Option.some.inj ((show Tryz.prog.funcNamed "underpin/underpinlaw01.ExactReckons" =some 3 by kernel_rfl).symm.trans hf) |>.symm;obtain rfl:fn=Tryz.f3:=(Option.some.inj (Tryz.func3.symm.trans hfn)).symm
    exact ⟨by kernel_rfl,fun j t ht=>by
     rw [Tryz.params3] at ht;have hm:t∈[22]:=by have:=Array.mem_of_getElem? ht;simp at this |-;omega
     have hall:([22].all fun u=> !Tryz.prog.wantsStandIn u)=true:=by kernel_rfl
     exact (show Tryz.prog.wantsStandIn t=false by simpa using List.all_eq_true.1 hall t hm)⟩)
  (by kernel_rfl)
end Go.Proofs.YtnmkalocbfdecaaGreatDoor
