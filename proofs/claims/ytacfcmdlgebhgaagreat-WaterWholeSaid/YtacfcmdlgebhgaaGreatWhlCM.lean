/- WaterWhole: for every net and whatever is asked, of whatever size, the law returns true: the conductance of the net between two nodes, and what any heads and any flows say of it, are told by the specification. No condition. -/
import Derived.Test.YtacfcmdlgebhgaaGreatMg28
import Derived.Test.YtacfcmdlgebhgaaGreatMg34
set_option linter.unusedVariables false
set_option linter.unusedSimpArgs false
namespace Go.Proofs.YtacfcmdlgebhgaaGreat
open Go.ChangeShapes Go.WideShapes Go.ChangeAt Go.RowKit
theorem Tryz.own_:ownKnob Tryz.prog.godebug=none:=by kernel_rfl
theorem Tryz.laidOut_:laidOutB Tryz.prog=true:=by kernel_rfl
theorem zq9 {H:Type} {enc:TypeId×Value->H} {P:Program} {w:World} {base:Nat} {spare:Nat->Bool} {held:Bool} {t:TypeId} (ht:P.underlying t=some .bool):
 DataW.Trod enc P w base spare held t (.bool true) (.lit (.bool true)) []:=⟨1,by simp [DataW.trod,ht,Value.cells]⟩
set_option maxRecDepth 100000 in
theorem law_lifted (os:Os) (started:os.Started) (H:Type) (enc:TypeId×Value->H):
 ReturnsInHanded {} Tryz.checked os 3 .any (Rows.waterWholeSpec.pre6 enc Tryz.prog Tryz.f3 Rows.waterWholeRow.domain false) (Rows.waterWholeSpec.post enc Tryz.prog Tryz.f3 false true false false):=by
 refine returnsInHanded_of_change_sized (C:=Tryz.checked) Tryz.own_ started (by kernel_rfl) Tryz.func3
  (ChangeSpec.witness6 (enc:=enc) (C:=Tryz.checked) false ⟨#[],#[.agg #[.slice none 0 0,.slice none 0 0,.slice none 0 0,.slice none 0 0],.agg #[.slice none 0 0,.slice none 0 0,.slice none 0 0,.int .i64 0,.int .i64 0,.int .i64 0,.int .i64 0,.string ⟨#[]⟩,.string ⟨#[]⟩,.slice none 0 0,.slice none 0 0]],[]⟩ 8 (by kernel_rfl) (by kernel_rfl) (by kernel_rfl) (by kernel_rfl)) ?_
 intro W base args ds gs before hval0 hW _ hsz0 _
 have hsz:(DataW.weightsEach Tryz.prog (Tryz.f3.params.toList ++ Rows.waterWholeSpec.plain.varTypes Tryz.prog) (ds ++ gs)).all (· <=reachBytes)=true:=hsz0
 clear hsz0
 have hval:∀ (j:Nat) t v,Tryz.f3.params[j]?=some t->args[j]?=some v->Value.okWide Tryz.prog W .any base t v:=hval0
 have hW' :=hW
 obtain ⟨p,q,hA0,hV,rfl,_,_⟩:=hW
 have hA:DataW.TrodAll enc Tryz.prog W 0 (fun _=>true) true Tryz.f3.params.toList args.toList ds p:=hA0
 rw [Tryz.params3] at hA hval hsz
 obtain ⟨v0,v1,d0,d1,p0,p1,rfl,rfl,rfl,h0,h1⟩:=trodAll_two hA
 obtain ⟨rfl,rfl⟩:=trodVars_none hV
 obtain ⟨vs,rfl,_⟩:=okWide_struct zeh (hval 0 26 v0 rfl rfl)
 obtain ⟨us,rfl,_⟩:=okWide_struct zfp (hval 1 31 v1 rfl rfl)
 have h0k:=h0
 have h1k:=h1
 obtain ⟨fuel,hf⟩:=h0
 obtain ⟨fuel1,hf1⟩:=h1
 clear hA0 hval0
 simp only [List.append_nil] at hW'
 have hlt:∀ x∈p0,x.block<W.heap.size:=fun x hx=>by simpa using hW'.lt x (List.mem_append.2 (.inl hx))
 have hlt1:∀ x∈p1,x.block<W.heap.size:=fun x hx=>by simpa using hW'.lt x (List.mem_append.2 (.inr hx))
 have hargs:∀ (W' :World),Below W.heap.size W W' ->DataW.Trod enc Tryz.prog W' 0 (fun b=>decide (b<W.heap.size)) true 26 (.agg vs) d0 p0:=
  fun W' hn=>Below.trod Tryz.laidOut_ (by kernel_rfl) (of_decide_eq_true (by kernel_rfl)) h0k hn hlt
 have hargs1:∀ (W' :World),Below W.heap.size W W' ->DataW.Trod enc Tryz.prog W' 0 (fun b=>decide (b<W.heap.size)) true 31 (.agg us) d1 p1:=
  fun W' hn=>Below.trod Tryz.laidOut_ (by kernel_rfl) (of_decide_eq_true (by kernel_rfl)) h1k hn hlt1
 have hwt:∀ z∈d0.weights Tryz.prog 26,z<=reachBytes:=by
  intro z hz
  rw [List.all_eq_true] at hsz
  have:=hsz z (by simp [DataW.weightsEach];exact .inl hz)
  simpa using this
 have hwt1:∀ z∈d1.weights Tryz.prog 31,z<=reachBytes:=by
  intro z hz
  rw [List.all_eq_true] at hsz
  have:=hsz z (by simp [DataW.weightsEach];exact .inr hz)
  simpa using this
 obtain ⟨n,hn⟩:=zve (x:=(d0,p0)) hf hwt hlt
 obtain ⟨a,ha⟩:=zt0 (x:=(d1,p1)) hf1 hwt1 hlt1
 refine (zqp _ _ n a W hn ha).mono ?_
 rintro e W' ⟨rfl,hb⟩
 refine ⟨_,rfl,_,_,_,[],p0 ++ p1,[],hW',?_,?_,rfl,hb.frame _,fun h=>by cases h⟩
 . exact trodAll_mk1 (zq9 (by kernel_rfl))
 exact trodAll_mk2 (hargs _ hb) (hargs1 _ hb)
theorem law_holds:Rows.WaterWholeSaid:=by
 first
 | exact OpenClaim.holds_of_wide 3 Tryz.f3 rfl rfl rfl rfl rfl rfl rfl ⟨rfl,rfl,rfl,rfl,rfl⟩ rfl rfl rfl rfl rfl (by kernel_rfl) Tryz.func3 (by kernel_rfl)
    (of_decide_eq_true (by kernel_rfl)) (by unfold Func.isWrapper;first | (rw [if_pos (by decide+kernel)];kernel_rfl) | (rw [if_neg (by decide+kernel)];exact ⟨rfl,rfl⟩))
    (fun os started H enc _=>law_lifted os started H enc)
 | exact OpenClaim.holds_of_wide_leaving 3 Tryz.f3 rfl rfl rfl rfl rfl rfl rfl ⟨rfl,rfl,rfl,rfl,rfl⟩ rfl rfl rfl rfl rfl (by kernel_rfl) Tryz.func3 (by kernel_rfl)
    (of_decide_eq_true (by kernel_rfl)) (by unfold Func.isWrapper;first | (rw [if_pos (by decide+kernel)];kernel_rfl) | (rw [if_neg (by decide+kernel)];exact ⟨rfl,rfl⟩))
    (fun os started H enc _=>zb4 (law_lifted os started H enc))
end Go.Proofs.YtacfcmdlgebhgaaGreat
