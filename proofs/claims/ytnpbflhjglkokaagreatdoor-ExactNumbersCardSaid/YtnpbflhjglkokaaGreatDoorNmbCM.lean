/- ExactNumbers: the row and its tied card. -/
import Derived.ChangeMaps5
import Derived.LaidMore
import Derived.Lay
import Derived.OpenShut
import Derived.ProofKit
import Derived.SevenTiedAt
import Derived.Stop.Joined
import Derived.Test.YtnpbflhjglkokaaGreatDoorCards
import Derived.Test.YtnpbflhjglkokaaGreatDoorTie
import Derived.Test.YtnpbflhjglkokaaGreatDoorMn45
set_option linter.unusedVariables false
set_option linter.unusedSimpArgs false
namespace Go.Proofs.YtnpbflhjglkokaaGreatDoor
open Go.ChangeShapes Go.WideShapes Go.ChangeAt Go.WideMaps Go.ChangeMaps Go.RowKit
theorem Tryz.own_:ownKnob Tryz.prog.godebug=none:=by kernel_rfl
set_option maxRecDepth 100000 in
theorem law_lifted (os:Os) (started:os.Started) (H:Type) (enc:TypeId×Value->H):
 ReturnsInHanded {} Tryz.checked os 10 .any (fun w args=>(Rows.exactNumbersSpec.pre enc Tryz.prog Tryz.f10 Rows.exactNumbersRow.domain false w args/\laidMetH Tryz.prog Rows.exactNumbersRow.laid w)/\sizedMet enc Tryz.prog Tryz.f10 (OpenSpec.ofChange Rows.exactNumbersSpec) false w args)
  (Rows.exactNumbersSpec.post enc Tryz.prog Tryz.f10 false true false false):=by
 refine returnsInHanded_of_change_and (C:=Tryz.checked) (X:=fun w _=>laidMetH Tryz.prog Rows.exactNumbersRow.laid w) (fun _ _ _ hh h=>h.of_heap hh) Tryz.own_ started (by kernel_rfl) Tryz.func10
  (ChangeSpec.witness_shaped (enc:=enc) (C:=Tryz.checked) (os:=os) (X:=fun w _=>laidMetH Tryz.prog Rows.exactNumbersRow.laid w) false (World.laidAll Tryz.prog os Rows.exactNumbersRow.laid) #[.string ⟨#[]⟩,.int .i64 0] 8 (World.laidAll_os _ _ _)
    (World.shaped_of_ZipB (by kernel_rfl) (by kernel_rfl)) (by kernel_rfl) (by kernel_rfl) (by kernel_rfl)
    (by rw [MakeChecks.laidMetH_plain _ _ _ (by kernel_rfl)];exact laidMet_laidAll _ (by kernel_rfl) (by kernel_rfl))) ?_
 intro W base args ds gs before hval0 hW hc hsz0 hL _
 have hsz:(DataW.weightsEach Tryz.prog (Tryz.f10.params.toList ++ Rows.exactNumbersSpec.plain.varTypes Tryz.prog) (ds ++ gs)).all (· <=reachBytes)=true:=hsz0
 clear hsz0
 have hval:∀ (j:Nat) t v,Tryz.f10.params[j]?=some t->args[j]?=some v->Value.okWide Tryz.prog W .any base t v:=hval0
 have hW' :=hW
 obtain ⟨p,q,hA0,hV,rfl,_,_⟩:=hW
 have hA:DataW.TrodAll enc Tryz.prog W 0 (fun _=>true) true Tryz.f10.params.toList args.toList ds p:=hA0
 rw [Tryz.params10] at hA hval hsz
 obtain ⟨v0,v1,d0,d1,p0,p1,rfl,rfl,rfl,h0,h1⟩:=trodAll_two hA
 obtain ⟨rfl,rfl⟩:=trodVars_none hV
 clear hA0 hval0
 obtain ⟨s0,rfl,rfl,rfl,hs0⟩:=open_string Tryz.underlying9 (hval 0 9 v0 rfl rfl) h0
 obtain ⟨n1,rfl,rfl,rfl,hs1⟩:=open_int Tryz.underlying2 (hval 1 2 v1 rfl rfl) h1
 have hz0:s0.size<=reachBytes:=by
  rw [List.all_eq_true] at hsz
  have:=hsz s0.data.toList.length (by simp [DataW.weightsEach,DataW.weights])
  simpa using this
 simp only [List.append_nil] at hW'
 refine (zd3 s0 n1 W hz0 hs1).mono ?_
 rintro e W' ⟨rfl,hb⟩
 refine ⟨_,rfl,_,_,_,[],[],[],hW',?_,?_,rfl,hb.frame _,fun h=>by cases h⟩
 . exact trodAll_mk1 (shut_bool Tryz.underlying4 _)
 . exact trodAll_mk2 (shut_string Tryz.underlying9 hs0) (shut_int Tryz.underlying2 hs1)
theorem law_holds:Rows.ExactNumbersSaid:=
 OpenClaim.holds_of_wide 10 Tryz.f10 rfl rfl rfl rfl rfl rfl rfl ⟨rfl,rfl,rfl,rfl,rfl⟩ rfl rfl rfl rfl rfl (by kernel_rfl) Tryz.func10 (by kernel_rfl)
  (of_decide_eq_true (by kernel_rfl)) (by unfold Func.isWrapper;first | (rw [if_pos (by decide+kernel)];kernel_rfl) | (rw [if_neg (by decide+kernel)];exact ⟨rfl,rfl⟩))
  (fun os started H enc _=>law_lifted os started H enc)
theorem card_holds:Rows.ExactNumbersCardSaid:=
 Claim7.holds_tied_plain_at .later [] [.data,.pinned] true (true, "ca094e68aff66c1906d25c13d3a2ad24d0dca8c8e5b64011045ba65c6c489d20") false law_holds (fun _ h=>by cases h) (by kernel_rfl) (fun _ h=>by cases h) exactNumbers_row_tie rfl ⟨rfl,rfl⟩ (by kernel_rfl) rfl
  (fun f fn hf hfn=>by
    obtain rfl:f=10:=Option.some.inj ((show Tryz.prog.funcNamed "underpin/underpinlaw01.ExactNumbers" =some 10 by kernel_rfl).symm.trans hf) |>.symm;obtain rfl:fn=Tryz.f10:=(Option.some.inj (Tryz.func10.symm.trans hfn)).symm
    exact ⟨by kernel_rfl,fun j t ht=>by
     rw [Tryz.params10] at ht;have hm:t∈[9,2]:=by have:=Array.mem_of_getElem? ht;simp at this |-;omega
     have hall:([9,2].all fun u=> !Tryz.prog.wantsStandIn u)=true:=by kernel_rfl
     exact (show Tryz.prog.wantsStandIn t=false by simpa using List.all_eq_true.1 hall t hm)⟩)
  (by kernel_rfl)
end Go.Proofs.YtnpbflhjglkokaaGreatDoor
