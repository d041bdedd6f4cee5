/- Two answers that hold for the same rows and goal are of one kind, and have one value. -/
import Derived.ChangeMaps5
import Derived.LaidMore
import Derived.Lay
import Derived.OpenShut
import Derived.SevenTiedAt
import Derived.Stop.Joined
import Derived.Test.YtobdoblpnanclaaGreatDoorCards
import Derived.Test.YtobdoblpnanclaaGreatDoorTie
import Derived.Test.YtobdoblpnanclaaGreatDoorMo40
set_option linter.all false
namespace Go.Proofs.YtobdoblpnanclaaGreatDoor
open Proofs.Tryz Go.ChangeShapes Go.WideShapes Go.ChangeAt Go.WideMaps Go.ChangeMaps Go.RowKit
theorem Tryz.own_:ownKnob prog.godebug=none:=by kernel_rfl
theorem Tryz.laidOut_:laidOutB prog=true:=by kernel_rfl
set_option maxRecDepth 100000 in
theorem law_lifted (os:Os) (started:os.Started) (H:Type) (enc:TypeId×Value->H):
 ReturnsInHanded {} Tryz.checked os 3 .any (fun w args=>(Rows.exactOneSpec.pre enc prog Tryz.f3 Rows.exactOneRow.domain false w args/\laidMetH prog Rows.exactOneRow.laid w)/\sizedMet enc prog Tryz.f3 (OpenSpec.ofChange Rows.exactOneSpec) false w args)
  (Rows.exactOneSpec.post enc prog Tryz.f3 false true false false):=by
 refine returnsInHanded_of_change_and (C:=Tryz.checked) (X:=fun w _=>laidMetH prog Rows.exactOneRow.laid w) (fun _ _ _ hh h=>h.of_heap hh) Tryz.own_ started (by kernel_rfl) func3
  (ChangeSpec.witness_shaped (enc:=enc) (C:=Tryz.checked) (os:=os) (X:=fun w _=>laidMetH prog Rows.exactOneRow.laid w) false (World.laidAll prog os Rows.exactOneRow.laid) #[.slice none 0 0,.slice none 0 0,.agg #[.int .u8 0,.string ⟨#[]⟩,.slice none 0 0,.slice none 0 0,.slice none 0 0,.slice none 0 0,.slice none 0 0,.string ⟨#[]⟩]] 8 (World.laidAll_os _ _ _)
    (World.shaped_of_ZipB (by kernel_rfl) (by kernel_rfl)) (by kernel_rfl) (by kernel_rfl) (by kernel_rfl)
    (by rw [MakeChecks.laidMetH_plain _ _ _ (by kernel_rfl)];exact laidMet_laidAll _ (by kernel_rfl) (by kernel_rfl))) ?_
 intro W base args ds gs before ah hW hc ac hL _
 have r:(DataW.weightsEach prog (Tryz.f3.params.toList ++ Rows.exactOneSpec.plain.varTypes prog) (ds ++ gs)).all (· <=reachBytes)=true:=ac
 clear ac
 have B:∀ (j:Nat) t v,Tryz.f3.params[j]?=some t->args[j]?=some v->Value.okWide prog W .any base t v:=ah
 have u :=hW
 obtain ⟨p,q,ab,hV,rfl,_,_⟩:=hW
 have hA:DataW.TrodAll enc prog W 0 (fun _=>true) true Tryz.f3.params.toList args.toList ds p:=ab
 rw [Tryz.params3] at hA B r
 obtain ⟨v0,v1,v2,d0,d1,R,N,I,E,rfl,rfl,rfl,V,h1,U⟩:=trodAll_three hA
 obtain ⟨rfl,rfl⟩:=trodVars_none hV
 clear ab ah
 obtain ⟨J,G,Q,rfl⟩:=okWide_slice underlying22 (B 0 22 v0 rfl rfl)
 have an:=V
 obtain ⟨aA,ao⟩:=V
 obtain ⟨O,F,K,rfl⟩:=okWide_slice underlying23 (B 1 23 v1 rfl rfl)
 have aj:=h1
 obtain ⟨aB,ay⟩:=h1
 obtain ⟨y,rfl,aC⟩:=okWide_struct underlying33 (B 2 33 v2 rfl rfl)
 have ai:=U
 obtain ⟨aD,ax⟩:=U
 simp only [List.append_nil] at u
 have ag:∀ x∈N,x.block<W.heap.size:=fun x hx=>by simpa using u.lt x (by simp [hx])
 have az:∀ (m :World),Below W.heap.size W m ->DataW.Trod enc prog m 0 (fun b=>decide (b<W.heap.size)) true 22 (.slice J G Q) d0 N:=
  fun m hn=>Below.trod Tryz.laidOut_ (by kernel_rfl) (uG (by kernel_rfl)) an hn ag
 have aq:∀ z∈d0.weights prog 22,z<=reachBytes:=by
  intro z l
  rw [List.all_eq_true] at r
  have:=r z (by simp [DataW.weightsEach];first | exact .inl l | exact l | exact .inr (.inl l) | exact .inr l | exact .inr (.inr (.inl l)) | exact .inr (.inr l))
  simpa using this
 obtain ⟨u0,l0,D,ap⟩:=zm5 (cs:=[.slice J G Q]) ao aq ag
 injection D with D
 subst D
 have Z:∀ x∈I,x.block<W.heap.size:=fun x hx=>by simpa using u.lt x (by simp [hx])
 have ar:∀ (m :World),Below W.heap.size W m ->DataW.Trod enc prog m 0 (fun b=>decide (b<W.heap.size)) true 23 (.slice O F K) d1 I:=
  fun m hn=>Below.trod Tryz.laidOut_ (by kernel_rfl) (uG (by kernel_rfl)) aj hn Z
 have aw:∀ z∈d1.weights prog 23,z<=reachBytes:=by
  intro z l
  rw [List.all_eq_true] at r
  have:=r z (by simp [DataW.weightsEach];first | exact .inl l | exact l | exact .inr (.inl l) | exact .inr l | exact .inr (.inr (.inl l)) | exact .inr (.inr l))
  simpa using this
 obtain ⟨u1,l1,M,av⟩:=zgp (cs:=[.slice O F K]) ay aw Z
 injection M with M
 subst M
 have af:∀ x∈E,x.block<W.heap.size:=fun x hx=>by simpa using u.lt x (by simp [hx])
 have al:∀ (m :World),Below W.heap.size W m ->DataW.Trod enc prog m 0 (fun b=>decide (b<W.heap.size)) true 33 (.agg y) R E:=
  fun m hn=>Below.trod Tryz.laidOut_ (by kernel_rfl) (uG (by kernel_rfl)) ai hn af
 have am:∀ z∈R.weights prog 33,z<=reachBytes:=by
  intro z l
  rw [List.all_eq_true] at r
  have:=r z (by simp [DataW.weightsEach];first | exact .inl l | exact l | exact .inr (.inl l) | exact .inr l | exact .inr (.inr (.inl l)) | exact .inr (.inr l))
  simpa using this
 obtain ⟨T,Y,ad,S,aa,ae,L,au,e2,ak⟩:=zlh ax am af
 obtain rfl:y=#[.int .u8 T,str L.ans.value,Y,ad,S,aa,ae,str L.row.bound]:=by rw [<- Array.toArray_toList (xs:=y),show y.toList=_ from e2]
 refine (zr4 J G Q l0 O F K l1 T Y ad S aa ae L W ap av au ak).mono ?_
 rintro e m ⟨rfl,hb⟩
 refine ⟨_,rfl,_,_,_,[],N ++ (I ++ E),[],u,?_,?_,rfl,hb.frame _,fun h=>by cases h⟩
 . exact trodAll_mk1 (shut_bool underlying4 _)
 exact trodAll_mk3 (az _ hb) (ar _ hb) (al _ hb)
theorem law_holds:Rows.ExactOneSaid:=
 OpenClaim.holds_of_wide 3 Tryz.f3 rfl rfl rfl rfl rfl rfl rfl ⟨rfl,rfl,rfl,rfl,rfl⟩ rfl rfl rfl rfl rfl (by kernel_rfl) func3 (by kernel_rfl)
  (uG (by kernel_rfl)) (by unfold Func.isWrapper;first | (rw [if_pos (by decide+kernel)];kernel_rfl) | (rw [if_neg (by decide+kernel)];exact ⟨rfl,rfl⟩))
  (fun os started H enc _=>law_lifted os started H enc)
theorem card_holds:Rows.ExactOneCardSaid:=
 Claim7.holds_tied_plain_at .later [] [.data,.pinned] true (true, "0fff7ef96726a6fd65036369f08e75e2411efa13ea43ca31894150697d003cfd") false law_holds (fun _ h=>by cases h) (by kernel_rfl) (fun _ h=>by cases h) exactOne_row_tie rfl ⟨rfl,rfl⟩ (by kernel_rfl) rfl
  (fun f fn hf hfn=>by
    obtain rfl:f=3:=Option.some.inj ((show prog.funcNamed "underpin/underpinlaw01.ExactOne" =some 3 by kernel_rfl).symm.trans hf) |>.symm;obtain rfl:fn=Tryz.f3:=(Option.some.inj (func3.symm.trans hfn)).symm
    exact ⟨by kernel_rfl,fun j t ht=>by
     rw [Tryz.params3] at ht;have b:t∈[22,23,33]:=by have:=Array.mem_of_getElem? ht;simp at this |-;omega
     have e:([22,23,33].all fun u=> !prog.wantsStandIn u)=true:=by kernel_rfl
     exact (show prog.wantsStandIn t=false by simpa using List.all_eq_true.1 e t b)⟩)
  (by kernel_rfl)
end Go.Proofs.YtobdoblpnanclaaGreatDoor
