/- Parts of the proof: memory, numbers, walks of the functions that are called. -/
import Derived.ChangeMaps5
import Derived.LaidMore
import Derived.Lay
import Derived.OpenShut
import Derived.SevenTiedAt
import Derived.Stop.Joined
import Derived.Test.YtkmcmmcencdcpaaGreatDoorCards
import Derived.Test.YtkmcmmcencdcpaaGreatDoorTie
import Derived.Test.YtkmcmmcencdcpaaGreatDoorMt41
set_option linter.unusedVariables false
set_option linter.unusedSimpArgs false
namespace Go.Proofs.YtkmcmmcencdcpaaGreatDoor
open Go.ChangeShapes Go.WideShapes Go.ChangeAt Go.WideMaps Go.ChangeMaps Go.RowKit
theorem Tryz.own_:ownKnob Tryz.prog.godebug=none:=by kernel_rfl
theorem Tryz.laidOut_:laidOutB Tryz.prog=true:=by kernel_rfl
set_option maxRecDepth 100000 in
theorem law_lifted (os:Os) (started:os.Started) (H:Type) (enc:TypeId×Value->H):
 ReturnsInHanded {} Tryz.checked os 4 .any (fun w args=>(Rows.exactSumsSpec.pre enc Tryz.prog Tryz.f4 Rows.exactSumsRow.domain false w args/\laidMetH Tryz.prog Rows.exactSumsRow.laid w)/\sizedMet enc Tryz.prog Tryz.f4 (OpenSpec.ofChange Rows.exactSumsSpec) false w args)
  (Rows.exactSumsSpec.post enc Tryz.prog Tryz.f4 false true false false):=by
 refine returnsInHanded_of_change_and (C:=Tryz.checked) (X:=fun w _=>laidMetH Tryz.prog Rows.exactSumsRow.laid w) (fun _ _ _ hh h=>h.of_heap hh) Tryz.own_ started (by kernel_rfl) Tryz.func4
  (ChangeSpec.witness_shaped (enc:=enc) (C:=Tryz.checked) (os:=os) (X:=fun w _=>laidMetH Tryz.prog Rows.exactSumsRow.laid w) false (World.laidAll Tryz.prog os Rows.exactSumsRow.laid) #[.slice none 0 0,.slice none 0 0,.slice none 0 0] 8 (World.laidAll_os _ _ _)
    (World.shaped_of_ZipB (by kernel_rfl) (by kernel_rfl)) (by kernel_rfl) (by kernel_rfl) (by kernel_rfl)
    (by rw [MakeChecks.laidMetH_plain _ _ _ (by kernel_rfl)];exact laidMet_laidAll _ (by kernel_rfl) (by kernel_rfl))) ?_
 intro W base args ds gs before hval0 hW hc hsz0 hL _
 have hsz:(DataW.weightsEach Tryz.prog (Tryz.f4.params.toList ++ Rows.exactSumsSpec.plain.varTypes Tryz.prog) (ds ++ gs)).all (· <=reachBytes)=true:=hsz0
 clear hsz0
 have hval:∀ (j:Nat) t v,Tryz.f4.params[j]?=some t->args[j]?=some v->Value.okWide Tryz.prog W .any base t v:=hval0
 have hW' :=hW
 obtain ⟨p,q,hA0,hV,rfl,_,_⟩:=hW
 have hA:DataW.TrodAll enc Tryz.prog W 0 (fun _=>true) true Tryz.f4.params.toList args.toList ds p:=hA0
 rw [Tryz.params4] at hA hval hsz
 obtain ⟨v0,v1,v2,d0,d1,d2,p0,p1,p2,rfl,rfl,rfl,h0,h1,h2⟩:=trodAll_three hA
 obtain ⟨rfl,rfl⟩:=trodVars_none hV
 clear hA0 hval0
 obtain ⟨aa0,am0,ac0,rfl⟩:=okWide_slice Tryz.underlying22 (hval 0 22 v0 rfl rfl)
 have hk0:=h0
 obtain ⟨fuel0,hf0⟩:=h0
 obtain ⟨aa1,am1,ac1,rfl⟩:=okWide_slice Tryz.underlying30 (hval 1 30 v1 rfl rfl)
 have hk1:=h1
 obtain ⟨fuel1,hf1⟩:=h1
 obtain ⟨aa2,am2,ac2,rfl⟩:=okWide_slice Tryz.underlying31 (hval 2 31 v2 rfl rfl)
 have hk2:=h2
 obtain ⟨fuel2,hf2⟩:=h2
 simp only [List.append_nil] at hW'
 have hlt0:∀ x∈p0,x.block<W.heap.size:=fun x hx=>by simpa using hW'.lt x (by simp [hx])
 have hargs0:∀ (W' :World),Below W.heap.size W W' ->DataW.Trod enc Tryz.prog W' 0 (fun b=>decide (b<W.heap.size)) true 22 (.slice aa0 am0 ac0) d0 p0:=
  fun W' hn=>Below.trod Tryz.laidOut_ (by kernel_rfl) (of_decide_eq_true (by kernel_rfl)) hk0 hn hlt0
 have hwt0:∀ z∈d0.weights Tryz.prog 22,z<=reachBytes:=by
  intro z hz
  rw [List.all_eq_true] at hsz
  have:=hsz z (by simp [DataW.weightsEach];first | exact .inl hz | exact hz | exact .inr (.inl hz) | exact .inr hz | exact .inr (.inr (.inl hz)) | exact .inr (.inr hz))
  simpa using this
 obtain ⟨u0,l0,e0,hr0⟩:=zmj (cs:=[.slice aa0 am0 ac0]) hf0 hwt0 hlt0
 injection e0 with e0
 subst e0
 have hlt1:∀ x∈p1,x.block<W.heap.size:=fun x hx=>by simpa using hW'.lt x (by simp [hx])
 have hargs1:∀ (W' :World),Below W.heap.size W W' ->DataW.Trod enc Tryz.prog W' 0 (fun b=>decide (b<W.heap.size)) true 30 (.slice aa1 am1 ac1) d1 p1:=
  fun W' hn=>Below.trod Tryz.laidOut_ (by kernel_rfl) (of_decide_eq_true (by kernel_rfl)) hk1 hn hlt1
 have hwt1:∀ z∈d1.weights Tryz.prog 30,z<=reachBytes:=by
  intro z hz
  rw [List.all_eq_true] at hsz
  have:=hsz z (by simp [DataW.weightsEach];first | exact .inl hz | exact hz | exact .inr (.inl hz) | exact .inr hz | exact .inr (.inr (.inl hz)) | exact .inr (.inr hz))
  simpa using this
 obtain ⟨u1,l1,e1,hr1⟩:=zlj (cs:=[.slice aa1 am1 ac1]) hf1 hwt1 hlt1
 injection e1 with e1
 subst e1
 have hlt2:∀ x∈p2,x.block<W.heap.size:=fun x hx=>by simpa using hW'.lt x (by simp [hx])
 have hargs2:∀ (W' :World),Below W.heap.size W W' ->DataW.Trod enc Tryz.prog W' 0 (fun b=>decide (b<W.heap.size)) true 31 (.slice aa2 am2 ac2) d2 p2:=
  fun W' hn=>Below.trod Tryz.laidOut_ (by kernel_rfl) (of_decide_eq_true (by kernel_rfl)) hk2 hn hlt2
 have hwt2:∀ z∈d2.weights Tryz.prog 31,z<=reachBytes:=by
  intro z hz
  rw [List.all_eq_true] at hsz
  have:=hsz z (by simp [DataW.weightsEach];first | exact .inl hz | exact hz | exact .inr (.inl hz) | exact .inr hz | exact .inr (.inr (.inl hz)) | exact .inr (.inr hz))
  simpa using this
 obtain ⟨u2,l2,e2,hr2⟩:=zi9 (cs:=[.slice aa2 am2 ac2]) hf2 hwt2 hlt2
 injection e2 with e2
 subst e2
 refine (zop aa0 am0 ac0 l0 aa1 am1 ac1 l1 aa2 am2 ac2 l2 W hr0 hr1 hr2).mono ?_
 rintro e W' ⟨rfl,hb⟩
 refine ⟨_,rfl,_,_,_,[],p0 ++ (p1 ++ p2),[],hW',?_,?_,rfl,hb.frame _,fun h=>by cases h⟩
 . exact trodAll_mk1 (shut_bool Tryz.underlying4 _)
 . exact trodAll_mk3 (hargs0 _ hb) (hargs1 _ hb) (hargs2 _ hb)
end Go.Proofs.YtkmcmmcencdcpaaGreatDoor
