/- The row of ExactShadow and its tied card. -/
import Derived.ChangeMaps5
import Derived.LaidMore
import Derived.Lay
import Derived.OpenShut
import Derived.SevenTiedAt
import Derived.Stop.Joined
import Derived.Test.YtofmkndhocinmaaGreatDoorCards
import Derived.Test.YtofmkndhocinmaaGreatDoorTie
import Derived.Test.YtofmkndhocinmaaGreatDoorMs41
set_option linter.all false
namespace Go.Proofs.YtofmkndhocinmaaGreatDoor
open Proofs.Tryz Go.ChangeShapes Go.WideShapes Go.ChangeAt Go.WideMaps Go.ChangeMaps Go.RowKit
theorem Tryz.own_:ownKnob prog.godebug=none:=by kernel_rfl
theorem Tryz.laidOut_:laidOutB prog=true:=by kernel_rfl
set_option maxRecDepth 100000 in
theorem law_lifted (os:Os) (started:os.Started) (H:Type) (enc:TypeId×Value->H):
 ReturnsInHanded {} Tryz.checked os 3 .any (fun w args=>(Rows.exactShadowSpec.pre enc prog Tryz.f3 Rows.exactShadowRow.domain false w args/\laidMetH prog Rows.exactShadowRow.laid w)/\sizedMet enc prog Tryz.f3 (OpenSpec.ofChange Rows.exactShadowSpec) false w args)
  (Rows.exactShadowSpec.post enc prog Tryz.f3 false true false false):=by
 refine returnsInHanded_of_change_and (C:=Tryz.checked) (X:=fun w _=>laidMetH prog Rows.exactShadowRow.laid w) (fun _ _ _ hh h=>h.of_heap hh) Tryz.own_ started (by kernel_rfl) func3
  (ChangeSpec.witness_shaped (enc:=enc) (C:=Tryz.checked) (os:=os) (X:=fun w _=>laidMetH prog Rows.exactShadowRow.laid w) false (World.laidAll prog os Rows.exactShadowRow.laid) #[.slice none 0 0,.slice none 0 0,.string ⟨#[]⟩] 8 (World.laidAll_os _ _ _)
    (World.shaped_of_ZipB (by kernel_rfl) (by kernel_rfl)) (by kernel_rfl) (by kernel_rfl) (by kernel_rfl)
    (by rw [MakeChecks.laidMetH_plain _ _ _ (by kernel_rfl)];exact laidMet_laidAll _ (by kernel_rfl) (by kernel_rfl))) ?_
 intro W base args ds gs before T M hc R hL _
 have r:(DataW.weightsEach prog (Tryz.f3.params.toList ++ Rows.exactShadowSpec.plain.varTypes prog) (ds ++ gs)).all (· <=reachBytes)=true:=R
 clear R
 have u:∀ (j:Nat) t v,Tryz.f3.params[j]?=some t->args[j]?=some v->Value.okWide prog W .any base t v:=T
 have y :=M
 obtain ⟨p,q,N,hV,rfl,_,_⟩:=M
 have Q:DataW.TrodAll enc prog W 0 (fun _=>true) true Tryz.f3.params.toList args.toList ds p:=N
 rw [Tryz.params3] at Q u r
 obtain ⟨v0,v1,v2,d0,d1,d2,p0,p1,p2,rfl,rfl,rfl,K,O,U⟩:=trodAll_three Q
 obtain ⟨rfl,rfl⟩:=trodVars_none hV
 clear N T
 obtain ⟨E,D,J,rfl⟩:=okWide_slice underlying22 (u 0 22 v0 rfl rfl)
 have Y:=K
 obtain ⟨aj,Z⟩:=K
 obtain ⟨I,B,F,rfl⟩:=okWide_slice underlying23 (u 1 23 v1 rfl rfl)
 have V:=O
 obtain ⟨ak,ah⟩:=O
 obtain ⟨s2,rfl,rfl,rfl,ad⟩:=open_string underlying9 (u 2 9 v2 rfl rfl) U
 have aa:s2.size<=reachBytes:=by
  rw [List.all_eq_true] at r
  have:=r s2.data.toList.length (by simp [DataW.weightsEach,DataW.weights])
  simpa using this
 simp only [List.append_nil] at y
 have S:∀ x∈p0,x.block<W.heap.size:=fun x hx=>by simpa using y.lt x (by simp [hx])
 have ai:∀ (m :World),Below W.heap.size W m ->DataW.Trod enc prog m 0 (fun b=>decide (b<W.heap.size)) true 22 (.slice E D J) d0 p0:=
  fun m hn=>Below.trod Tryz.laidOut_ (by kernel_rfl) (uG (by kernel_rfl)) Y hn S
 have ac:∀ z∈d0.weights prog 22,z<=reachBytes:=by
  intro z l
  rw [List.all_eq_true] at r
  have:=r z (by simp [DataW.weightsEach];first | exact .inl l | exact l | exact .inr (.inl l) | exact .inr l | exact .inr (.inr (.inl l)) | exact .inr (.inr l))
  simpa using this
 obtain ⟨u0,l0,e0,ab⟩:=zlz (cs:=[.slice E D J]) Z ac S
 injection e0 with e0
 subst e0
 have L:∀ x∈p1,x.block<W.heap.size:=fun x hx=>by simpa using y.lt x (by simp [hx])
 have ae:∀ (m :World),Below W.heap.size W m ->DataW.Trod enc prog m 0 (fun b=>decide (b<W.heap.size)) true 23 (.slice I B F) d1 p1:=
  fun m hn=>Below.trod Tryz.laidOut_ (by kernel_rfl) (uG (by kernel_rfl)) V hn L
 have ag:∀ z∈d1.weights prog 23,z<=reachBytes:=by
  intro z l
  rw [List.all_eq_true] at r
  have:=r z (by simp [DataW.weightsEach];first | exact .inl l | exact l | exact .inr (.inl l) | exact .inr l | exact .inr (.inr (.inl l)) | exact .inr (.inr l))
  simpa using this
 obtain ⟨u1,l1,G,af⟩:=zj9 (cs:=[.slice I B F]) ah ag L
 injection G with G
 subst G
 refine (zhy E D J l0 I B F l1 s2 W aa ab af).mono ?_
 rintro e m ⟨rfl,hb⟩
 refine ⟨_,rfl,_,_,_,[],p0 ++ (p1 ++ []),[],y,?_,?_,rfl,hb.frame _,fun h=>by cases h⟩
 . exact trodAll_mk1 (shut_bool underlying4 _)
 exact trodAll_mk3 (ai _ hb) (ae _ hb) (shut_string underlying9 ad)
theorem law_holds:Rows.ExactShadowSaid:=
 OpenClaim.holds_of_wide 3 Tryz.f3 rfl rfl rfl rfl rfl rfl rfl ⟨rfl,rfl,rfl,rfl,rfl⟩ rfl rfl rfl rfl rfl (by kernel_rfl) func3 (by kernel_rfl)
  (uG (by kernel_rfl)) (by unfold Func.isWrapper;first | (rw [if_pos (by decide+kernel)];kernel_rfl) | (rw [if_neg (by decide+kernel)];exact ⟨rfl,rfl⟩))
  (fun os started H enc _=>law_lifted os started H enc)
theorem card_holds:Rows.ExactShadowCardSaid:=
 Claim7.holds_tied_plain_at .later [] [.data,.pinned] true (true, "d390712dcdbd0f547454bd43ef6b28b9657e564b967769c16588969455067c54") false law_holds (fun _ h=>by cases h) (by kernel_rfl) (fun _ h=>by cases h) exactShadow_row_tie rfl ⟨rfl,rfl⟩ (by kernel_rfl) rfl
  (fun f fn hf hfn=>by
    obtain rfl:f=3:=Option.some.inj ((show prog.funcNamed "underpin/underpinlaw01.ExactShadow" =some 3 by kernel_rfl).symm.trans hf) |>.symm;obtain rfl:fn=Tryz.f3:=(Option.some.inj (func3.symm.trans hfn)).symm
    exact ⟨by kernel_rfl,fun j t ht=>by
     rw [Tryz.params3] at ht;have b:t∈[22,23,9]:=by have:=Array.mem_of_getElem? ht;simp at this |-;omega
     have e:([22,23,9].all fun u=> !prog.wantsStandIn u)=true:=by kernel_rfl
     exact (show prog.wantsStandIn t=false by simpa using List.all_eq_true.1 e t b)⟩)
  (by kernel_rfl)
end Go.Proofs.YtofmkndhocinmaaGreatDoor
