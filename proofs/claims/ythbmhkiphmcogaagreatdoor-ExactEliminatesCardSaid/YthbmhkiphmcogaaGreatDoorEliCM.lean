/- The row of ExactEliminates and its tied card. -/
import Derived.ChangeMaps5
import Derived.LaidMore
import Derived.Lay
import Derived.OpenShut
import Derived.SevenTiedAt
import Derived.Stop.Joined
import Derived.Test.YthbmhkiphmcogaaGreatDoorCards
import Derived.Test.YthbmhkiphmcogaaGreatDoorTie
import Derived.Test.YthbmhkiphmcogaaGreatDoorMe46
set_option linter.all false
namespace Go.Proofs.YthbmhkiphmcogaaGreatDoor
open Proofs.Tryz Go.ChangeShapes Go.WideShapes Go.ChangeAt Go.WideMaps Go.ChangeMaps Go.RowKit
theorem Tryz.own_:ownKnob Tryz.prog.godebug=none:=by kernel_rfl
theorem Tryz.laidOut_:laidOutB Tryz.prog=true:=by kernel_rfl
set_option maxRecDepth 100000 in
theorem law_lifted (os:Os) (started:os.Started) (H:Type) (enc:TypeId×Value->H):
 ReturnsInHanded {} Tryz.checked os 3 .any (fun w args=>(Rows.exactEliminatesSpec.pre enc Tryz.prog Tryz.f3 Rows.exactEliminatesRow.domain false w args/\laidMetH Tryz.prog Rows.exactEliminatesRow.laid w)/\sizedMet enc Tryz.prog Tryz.f3 (OpenSpec.ofChange Rows.exactEliminatesSpec) false w args)
  (Rows.exactEliminatesSpec.post enc Tryz.prog Tryz.f3 false true false false):=by
 refine returnsInHanded_of_change_and (C:=Tryz.checked) (X:=fun w _=>laidMetH Tryz.prog Rows.exactEliminatesRow.laid w) (fun _ _ _ hh h=>h.of_heap hh) Tryz.own_ started (by kernel_rfl) func3
  (ChangeSpec.witness_shaped (enc:=enc) (C:=Tryz.checked) (os:=os) (X:=fun w _=>laidMetH Tryz.prog Rows.exactEliminatesRow.laid w) false (World.laidAll Tryz.prog os Rows.exactEliminatesRow.laid) #[.slice none 0 0,.string ⟨#[]⟩] 8 (World.laidAll_os _ _ _)
    (World.shaped_of_ZipB (by kernel_rfl) (by kernel_rfl)) (by kernel_rfl) (by kernel_rfl) (by kernel_rfl)
    (by rw [MakeChecks.laidMetH_plain _ _ _ (by kernel_rfl)];exact laidMet_laidAll _ (by kernel_rfl) (by kernel_rfl))) ?_
 intro W base args ds U before I O hc K hL _
 have m:(DataW.weightsEach Tryz.prog (Tryz.f3.params.toList ++ Rows.exactEliminatesSpec.plain.varTypes Tryz.prog) (ds ++ U)).all (· <=reachBytes)=true:=K
 clear K
 have u:∀ (j:Nat) t v,Tryz.f3.params[j]?=some t->args[j]?=some v->Value.okWide Tryz.prog W .any base t v:=I
 have F :=O
 obtain ⟨p,q,N,hV,rfl,_,_⟩:=O
 have J:DataW.TrodAll enc Tryz.prog W 0 (fun _=>true) true Tryz.f3.params.toList args.toList ds p:=N
 rw [Tryz.params3] at J u m
 obtain ⟨v0,V,d0,d1,D,p1,rfl,rfl,rfl,M,Z⟩:=trodAll_two J
 obtain ⟨rfl,rfl⟩:=trodVars_none hV
 clear N I
 obtain ⟨E,G,y,rfl⟩:=okWide_slice underlying22 (u 0 22 v0 rfl rfl)
 have S:=M
 obtain ⟨ac,T⟩:=M
 obtain ⟨s1,rfl,rfl,rfl,Y⟩:=open_string underlying9 (u 1 9 V rfl rfl) Z
 have Q:s1.size<=reachBytes:=by
  rw [List.all_eq_true] at m
  have:=m s1.data.toList.length (by simp [DataW.weightsEach,DataW.weights])
  simpa using this
 simp only [List.append_nil] at F
 have L:∀ x∈D,x.block<W.heap.size:=fun x hx=>by simpa using F.lt x (by simp [hx])
 have aa:∀ (r :World),Below W.heap.size W r ->DataW.Trod enc Tryz.prog r 0 (fun b=>decide (b<W.heap.size)) true 22 (.slice E G y) d0 D:=
  fun r hn=>Below.trod Tryz.laidOut_ (by kernel_rfl) (of_decide_eq_true (by kernel_rfl)) S hn L
 have ab:∀ z∈d0.weights Tryz.prog 22,z<=reachBytes:=by
  intro z l
  rw [List.all_eq_true] at m
  have:=m z (by simp [DataW.weightsEach];first | exact .inl l | exact l | exact .inr (.inl l) | exact .inr l | exact .inr (.inr (.inl l)) | exact .inr (.inr l))
  simpa using this
 obtain ⟨u0,l0,B,R⟩:=zqr (cs:=[.slice E G y]) T ab L
 injection B with B
 subst B
 refine (zp7 E G y l0 s1 W Q R).mono ?_
 rintro e r ⟨rfl,hb⟩
 refine ⟨_,rfl,_,_,_,[],D ++ [],[],F,?_,?_,rfl,hb.frame _,fun h=>by cases h⟩
 . exact trodAll_mk1 (shut_bool underlying4 _)
 exact trodAll_mk2 (aa _ hb) (shut_string underlying9 Y)
theorem law_holds:Rows.ExactEliminatesSaid:=
 OpenClaim.holds_of_wide 3 Tryz.f3 rfl rfl rfl rfl rfl rfl rfl ⟨rfl,rfl,rfl,rfl,rfl⟩ rfl rfl rfl rfl rfl (by kernel_rfl) func3 (by kernel_rfl)
  (of_decide_eq_true (by kernel_rfl)) (by unfold Func.isWrapper;first | (rw [if_pos (by decide+kernel)];kernel_rfl) | (rw [if_neg (by decide+kernel)];exact ⟨rfl,rfl⟩))
  (fun os started H enc _=>law_lifted os started H enc)
theorem card_holds:Rows.ExactEliminatesCardSaid:=
 Claim7.holds_tied_plain_at .later [] [.data,.pinned] true (true, "02af5b86ba469a355ca3afc89a94b78fc09dfdcf0f6fabe3c8f2f117d3098c2f") false law_holds (fun _ h=>by cases h) (by kernel_rfl) (fun _ h=>by cases h) exactEliminates_row_tie rfl ⟨rfl,rfl⟩ (by kernel_rfl) rfl
  (fun f fn hf hfn=>by
    obtain rfl:f=3:=Option.some.inj ((show Tryz.prog.funcNamed "underpin/underpinlaw01.ExactEliminates" =some 3 by kernel_rfl).symm.trans hf) |>.symm;obtain rfl:fn=Tryz.f3:=(Option.some.inj (func3.symm.trans hfn)).symm
    exact ⟨by kernel_rfl,fun j t ht=>by
     rw [Tryz.params3] at ht;have e:t∈[22,9]:=by have:=Array.mem_of_getElem? ht;simp at this |-;omega
     have b:([22,9].all fun u=> !Tryz.prog.wantsStandIn u)=true:=by kernel_rfl
     exact (show Tryz.prog.wantsStandIn t=false by simpa using List.all_eq_true.1 b t e)⟩)
  (by kernel_rfl)
end Go.Proofs.YthbmhkiphmcogaaGreatDoor
