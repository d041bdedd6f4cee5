/- The walks of the reference's net (4): joined. · The walks of the reference's net (5): Check. · The walks of slices.IndexFunc, ContainsFunc over pipes and levels. · The walks of slices.Index, Contains over texts, numbers, marks. PRINTED by gen_find3.py. · The walks of slices.IndexFunc, ContainsFunc over levels and texts. PRINTED by gen_find.py. · The walks of the program's net (2): the pipes. · The walks of the program's net (3): levels. -/
import Derived.Below
import Derived.BigQuiet
import Derived.BigRegion
import Derived.Deep.AppendLies
import Derived.Deep.CutBlock
import Derived.Deep.DeepCutAuto
import Derived.Deep.DeepMust
import Derived.Deep.DrawnRows
import Derived.Deep.Draws
import Derived.Deep.LoopGhost
import Derived.Deep.OwnRows
import Derived.Deep.QuietTactic
import Derived.Deep.RegionHeld3
import Derived.Deep.RegionLawGrows
import Derived.Deep.RegionWith
import Derived.IntWalk
import Derived.Laws.BitsAllLaws
import Derived.Laws.MathBits
import Derived.Laws.OwnMore
import Derived.Laws.Rows
import Derived.Lib.BitFns
import Derived.Lib.Bytealg
import Derived.Lib.Index
import Derived.Lib.Slices
import Derived.Lib.Small
import Derived.Lib.Strings
import Derived.Lib.Walk
import Derived.LoopN
import Derived.Maps.AppendAt
import Derived.OwnWalk
import Derived.RegionTactic
import Derived.StillTailTactics
import Derived.WalkKit
import Derived.WalkLawsBesides
import Derived.WalkSpells
import Init.Data.List.Lemmas
import Derived.Test.YtdecgcdkaaiglaaGreatMg18
import Derived.Test.YtdecgcdkaaiglaaGreatMg01
set_option linter.unusedVariables false
set_option linter.unusedSimpArgs false
namespace Go.Proofs.YtdecgcdkaaiglaaGreat
open Go.RowKit Go.Deep
attribute [local go_sem ↓] Go.wp_at_zero Go.wp_at_succ
theorem infoBool : (Tryz.prog.info? 4).map (fun i => (i.zero, i.size, i.bytes)) = some (some (.bool false), 1, 1) := by kernel_rfl
/-- Marks as cells. -/
def bools (l : List Bool) : List Value := l.map Value.bool
theorem bools_length (l : List Bool) : (bools l).length = l.length := by simp [bools]
/-- Block g begins with marks. -/
def BolIs (w : World) (g : Nat) (l : List Bool) (rest : List Value) : Prop := Blk w g 4 (bools l ++ rest).toArray
section
variable {w w' : World} {g : Nat} {l : List Bool} {rest : List Value}
theorem BolIs.cell (h : BolIs w g l rest) {k : Nat} (hk : k < l.length) : w.cell? ⟨g, k, none⟩ = some (.bool l[k]) := by
  unfold BolIs at h
  rw [h.cell k, List.getElem?_toArray, List.getElem?_append_left (by rw [bools_length]; exact hk)]
  simp [bools, hk]
theorem BolIs.set_ (h : BolIs w g l rest) {k : Nat} (hk : k < l.length) (b : Bool) : BolIs (w.setCell ⟨g, k, none⟩ (.bool b)) g (l.set k b) rest := by
  unfold BolIs at h ⊢
  have := h.set_ k (.bool b)
  rw [List.setIfInBounds_toArray, List.set_append_left _ _ (by rw [bools_length]; exact hk)] at this
  rw [show bools (l.set k b) = (bools l).set k (.bool b) by simp [bools, List.map_set]]
  exact this
theorem BolIs.lt (h : BolIs w g l rest) : g < w.heap.size := Blk.lt h
theorem BolIs.frozen (h : BolIs w g l rest) (k : Nat) : w.frozen? ⟨g, k, none⟩ = false := Blk.frozen h k
theorem BolIs.below (h : BolIs w g l rest) (hb : Below w.heap.size w w') : BolIs w' g l rest := Blk.below h hb h.lt
theorem BolIs.reads (h : BolIs w g l rest) : Reads w w.heap.size 1 (some ⟨g, 0, none⟩) l.length (bools l) := by
  unfold BolIs at h
  have := h.reads (n := l.length) (by simp [bools])
  simpa [bools_length, List.take_append_of_le_length, List.take_of_length_le] using this
end
/-- Marks in memory. -/
def BoolsIs (w : World) (v : Value) (l : List Bool) : Prop := ∃ A c, v = .slice A l.length c ∧ l.length ≤ c ∧ c ≤ maxLen ∧ Reads w w.heap.size 1 A l.length (bools l)
theorem BoolsIs.below {w w' : World} {v : Value} {l : List Bool} (h : BoolsIs w v l) (hb : Below w.heap.size w w') : BoolsIs w' v l := by
  obtain ⟨A, c, h1, h2, h3, h4⟩ := h
  exact ⟨A, c, h1, h2, h3, (h4.below hb).more hb.size⟩
def RetMarks (n : Net) (S : Nat → Prop) (w : World) (e : Ending) (w' : World) : Prop := ∃ v l, e = .returned v ∧ BoolsIs w' v l ∧ Marks n S l ∧ Below w.heap.size w w'
end Go.Proofs.YtdecgcdkaaiglaaGreat
namespace Go.Proofs.YtdecgcdkaaiglaaGreat
open Go.RowKit Go.Deep
attribute [local go_sem ↓] Go.wp_at_zero Go.wp_at_succ
theorem NodesIs.at_ {w : World} {A : Option Addr} {n c : Nat} {l : List (List UInt8)} (h : NodesIs w (.slice A n c) l) {k : Nat} (hk : k < l.length) :
    ∃ ad, A = some ad ∧ ad.block < w.heap.size ∧ w.cell? (ad.add k) = some (str l[k]) := by
  obtain ⟨A', c', e, h2, h3, _, h4, h5⟩ := h
  injection e with e1 e2 e3
  subst e1 e2 e3
  obtain ⟨ad, rfl, hb, hc⟩ := h4.2 (by omega)
  exact ⟨ad, rfl, hb, hc k _ (by simp [hk])⟩
theorem nodeErr_get (n : Net) {k : Nat} (hk : k < n.nodes.length) : n.nodeErr k = if isName n.nodes[k] = false then 5 else if n.nodes[k] ∈ n.nodes.take k then 6 else 0 := by
  unfold Net.nodeErr
  have e : n.nodes.getD k [] = n.nodes[k] := by simp [List.getD, List.getElem?_eq_getElem hk]
  rw [e]
/-- A counter's loop over a net's box: what is known of all ahead of it. -/
def CntR (N : Nat) (D : Nat → Prop) (w : World) (cs : Array Value) (iv : Value) (wr : World) : Prop :=
  ∃ i : Nat, i ≤ N ∧ iv = .int .i64 i ∧ Hid (D i) ∧ Hid (Blk wr w.heap.size 26 cs) ∧ Hid (Below w.heap.size w wr)
theorem LevelsIs.take {w : World} {A : Option Addr} {m c : Nat} {l : List Level} (h : LevelsIs w (.slice A m c) l) {k : Nat} (hk : k ≤ l.length) : LevelsIs w (.slice A k c) (l.take k) := by
  obtain ⟨A', c', e, h2, h3, h6, h4, h5⟩ := h
  injection e with e1 e2 e3
  subst e1 e2 e3
  have hl : (l.take k).length = k := by rw [List.length_take]; omega
  refine ⟨A, c, by rw [hl], by omega, h3, by omega, ?_, fun x hx => h5 x (List.mem_of_mem_take hx)⟩
  have h7 := h4.head (k := k) hk
  rw [hl]
  have e : (levelsCells l).take (k * 2) = levelsCells (l.take k) := by
    clear h7 h4 h5 h6 h2 h3 hl
    induction l generalizing k with
    | nil => simp [levelsCells]
    | cons v l ih =>
      cases k with
      | zero => simp [levelsCells]
      | succ k =>
        have := ih (k := k) (by simpa using hk)
        have e2 : (k + 1) * 2 = k * 2 + 2 := by omega
        rw [e2]
        simpa [levelsCells, levelCells] using this
  rw [e] at h7
  exact h7
theorem makeBool (k : IntKind) (n : Nat) (hn : n ≤ 1073741824) (w : World) :
    (Instr.makeSlice 60 (.int k (n : Int)) (.int k (n : Int))).run Tryz.prog w = .ok (.slice (some ⟨w.heap.size, 0, none⟩) n n) (w.alloc (.cells (bools (List.replicate n false)).toArray 4)) := by
  rw [run_make_row' 60 4 (.bool false) 1 Tryz.underlying60 infoBool rfl k k n (by omega) (by omega) w]
  congr 3
  apply Array.ext'
  rw [toList_madeCells_one]
  simp [bools]
def nodesOk (n : Net) (i : Nat) : Prop := ∀ j, j < i → n.nodeErr j = 0
def pipesOk (n : Net) (i : Nat) : Prop := ∀ j, j < i → n.pipeErr j = 0
def wellsOk (n : Net) (i : Nat) : Prop := ∀ j, j < i → n.wellErr j = 0
end Go.Proofs.YtdecgcdkaaiglaaGreat
namespace Go.Proofs.YtdecgcdkaaiglaaGreat
open Go.RowKit Go.Deep
attribute [local go_sem ↓] Go.wp_at_zero Go.wp_at_succ
/-- the first place at which p holds, or -1 -/
def firstIdx (n : Nat) (p : Nat → Bool) : Int := match (List.range n).find? p with
  | some k => k
  | none => -1
theorem firstIdx_at {n k : Nat} {p : Nat → Bool} (hk : k < n) (h : p k = true) (h0 : ∀ j, j < k → p j = false) : firstIdx n p = k := by
  have : (List.range n).find? p = some k := by
    rw [List.find?_eq_some_iff_getElem]
    refine ⟨h, k, by simpa using hk, by simp, ?_⟩
    intro j hj
    simp [h0 j hj]
  unfold firstIdx
  rw [this]
theorem firstIdx_none {n : Nat} {p : Nat → Bool} (h0 : ∀ j, j < n → p j = false) : firstIdx n p = -1 := by
  have : (List.range n).find? p = none := by
    rw [List.find?_eq_none]
    intro j hj
    rw [h0 j (by simpa using hj)]; decide
  unfold firstIdx
  rw [this]
theorem firstIdx_cases (n : Nat) (p : Nat → Bool) : (∃ k, k < n ∧ p k = true ∧ (∀ j, j < k → p j = false) ∧ firstIdx n p = k) ∨ ((∀ j, j < n → p j = false) ∧ firstIdx n p = -1) := by
  by_cases h : ∃ k, k < n ∧ p k = true
  · obtain ⟨k, hk, hp⟩ := h
    induction k using Nat.strongRecOn with
    | _ k ih =>
      by_cases hm : ∃ m, m < k ∧ p m = true
      · obtain ⟨m, hm, hpm⟩ := hm
        exact ih m hm (by omega) hpm
      · have h0 : ∀ j, j < k → p j = false := fun j hj => by
          cases e : p j
          · rfl
          · exact absurd ⟨j, hj, e⟩ hm
        exact .inl ⟨k, hk, hp, h0, firstIdx_at hk hp h0⟩
  · have h0 : ∀ j, j < n → p j = false := fun j hj => by
      cases e : p j
      · rfl
      · exact absurd ⟨j, hj, e⟩ h
    exact .inr ⟨h0, firstIdx_none h0⟩
def anyIdx (n : Nat) (p : Nat → Bool) : Bool := (List.range n).any p
theorem anyIdx_iff {n : Nat} {p : Nat → Bool} : anyIdx n p = true ↔ ∃ k, k < n ∧ p k = true := by
  unfold anyIdx
  rw [List.any_eq_true]
  constructor
  · rintro ⟨k, hk, h⟩; exact ⟨k, by simpa using hk, h⟩
  · rintro ⟨k, hk, h⟩; exact ⟨k, by simpa using hk, h⟩
theorem anyIdx_first (n : Nat) (p : Nat → Bool) : anyIdx n p = decide (0 ≤ firstIdx n p) := by
  rcases firstIdx_cases n p with ⟨k, hk, hp, _, e⟩ | ⟨h0, e⟩
  · rw [e, decide_eq_true (by omega)]; exact anyIdx_iff.2 ⟨k, hk, hp⟩
  · rw [e]
    rw [Bool.eq_iff_iff, anyIdx_iff]
    constructor
    · rintro ⟨k, hk, h⟩; rw [h0 k hk] at h; cases h
    · intro h; simp at h
theorem enters {P : Program} {f : FuncId} {fn : Func} {c : Code} (hf : P.funcs[f]? = some fn) (hname : (fn.name == "runtime.NumGoroutine") = false) (hb : fn.body = some c) (args : Array Value) (w : World) :
    (callFunc f args).run P w = .ok (.enter f args) w := by
  have h1 : fn.name ≠ "runtime.NumGoroutine" := by simpa using hname
  simp [callFunc, hf, h1, hb]
def FindR (n : Nat) (p : Nat → Bool) (w : World) (iv : Value) (wr : World) : Prop := ∃ k : Nat, k ≤ n ∧ iv = .int .i64 k ∧ Hid (∀ j, j < k → p j = false) ∧ Hid (Below w.heap.size w wr)
def pipeVal (p : Pipe) : Value := .agg #[str p.name, .int .i64 p.from_, .int .i64 p.to_, str p.low, str p.high]
def levelVal (v : Level) : Value := .agg #[.int .i64 v.node, str v.value]
set_option maxRecDepth 100000 in
set_option maxHeartbeats 4000000 in
theorem find_pipes (A : Option Addr) (m c : Nat) (l : List Pipe) (g : Nat) (cv : Value) (p : Nat → Bool) (w : World) (ha : PipesIs w (.slice A m c) l) (eg : ∀ args w, (callFunc g args).run Tryz.prog w = .ok (.enter g args) w)
    (hp : ∀ k (hk : k < l.length) w', Below w.heap.size w w' → Calls Tryz.prog g #[pipeVal l[k], cv] w' (RetB w' (.bool (p k)))) :
    Calls Tryz.prog 164 #[.slice A m c, .func (.func g) #[] #[cv]] w (RetB w (.int .i64 (firstIdx l.length p))) := by
  have hm : m = l.length := by obtain ⟨A', c', e, _⟩ := ha; injection e
  have h1000 : l.length ≤ 1000 := by obtain ⟨A', c', e, _, _, h6, _⟩ := ha; exact h6
  subst hm
  have HA := hide ha
  have HP := hide hp
  have HW := hide (ext_refl w)
  clear ha hp
  go_enter Tryz.func164, Tryz.ntmps164
  go_wp2_with fail
  go_loopw [8] (FindR l.length p w) (fun iv _ => l.length - (intOf iv).toNat)
  case atStart => exact ⟨0, Nat.zero_le _, rfl, fun j h => by omega, HW⟩
  case round =>
    clear HW
    obtain ⟨k, hk, rfl, HD, HW⟩ := hrel
    by_cases hlt : k < l.length
    · obtain ⟨ad, rfl, hb, p0, p1, p2, p3, p4⟩ := (HA.out.below HW.out).at_ hlt
      have hp := HP.out k hlt wr HW.out
      unfold pipeVal at hp
      cases hpk : p k with
      | false =>
        rw [hpk] at hp
        have HNX : Hid (∀ j, j < k + 1 → p j = false) := by
          intro j hj
          rcases Nat.lt_or_ge j k with h3 | h3
          · exact HD.out j h3
          · obtain rfl : j = k := by omega
            exact hpk
        clear hpk
        go_wp2_with fail
        refine hp.mono ?_
        rintro e w1 ⟨rfl, hb1⟩
        have HW1 := hide (ext HW.out hb1)
        clear hb1 hp
        go_wp2_with fail
        go_round
        case rel => exact ⟨k + 1, by omega, by go_num, HNX, HW1⟩
        case measure => simp [intOf]; omega
      | true =>
        rw [hpk] at hp
        have HF := hide (firstIdx_at hlt hpk HD.out)
        clear hpk
        go_wp2_with fail
        refine hp.mono ?_
        rintro e w1 ⟨rfl, hb1⟩
        have HW1 := hide (ext HW.out hb1)
        clear hb1 hp
        go_wp2_with fail
        go_ret
        exact ⟨ret_i64' HF.out, HW1.out⟩
    · obtain rfl : k = l.length := by omega
      have HF := hide (firstIdx_none HD.out)
      go_wp2_with fail
      go_ret
      exact ⟨ret_i64' HF.out, HW.out⟩
set_option maxRecDepth 100000 in
set_option maxHeartbeats 4000000 in
theorem any_pipes (A : Option Addr) (m c : Nat) (l : List Pipe) (g : Nat) (cv : Value) (p : Nat → Bool) (w : World) (ha : PipesIs w (.slice A m c) l) (eg : ∀ args w, (callFunc g args).run Tryz.prog w = .ok (.enter g args) w)
    (hp : ∀ k (hk : k < l.length) w', Below w.heap.size w w' → Calls Tryz.prog g #[pipeVal l[k], cv] w' (RetB w' (.bool (p k)))) :
    Calls Tryz.prog 145 #[.slice A m c, .func (.func g) #[] #[cv]] w (RetB w (.bool (anyIdx l.length p))) := by
  have h := fun w' (hw : Below w.heap.size w w') => find_pipes A m c l g cv p w' (ha.below hw) eg (fun k hk w2 h2 => hp k hk w2 (ext hw h2))
  have HE := hide (anyIdx_first l.length p)
  obtain ⟨z, HZ⟩ : ∃ z, Hid (firstIdx l.length p = z) := ⟨_, hide rfl⟩
  rw [HZ.out] at HE h
  clear ha hp eg
  go_enter Tryz.func145, Tryz.ntmps145
  go_wp2_with fail
  refine (h _ (ext_refl w)).mono ?_
  rintro e w1 ⟨rfl, hb1⟩
  have HW1 := hide hb1
  clear hb1 h
  go_wp2_with fail
  go_ret
  exact ⟨ret_bool HE.out, HW1.out⟩
end Go.Proofs.YtdecgcdkaaiglaaGreat
namespace Go.Proofs.YtdecgcdkaaiglaaGreat
open Go.RowKit Go.Deep
attribute [local go_sem ↓] Go.wp_at_zero Go.wp_at_succ
set_option maxRecDepth 100000 in
set_option maxHeartbeats 4000000 in
theorem index_text (A : Option Addr) (B c : Nat) (l : List (List UInt8)) (z : List UInt8) (w : World) (ha : Reads w B 1 A l.length (l.map str)) (hl : l.length ≤ 1073741824) :
    Calls Tryz.prog 144 #[.slice A l.length c, str z] w (Ret1 w (.int .i64 (firstIdx l.length fun k => decide (l[k]? = some z)))) := by
  have HA := hide ha
  clear ha
  go_enter Tryz.func144, Tryz.ntmps144
  go_wp2_with fail
  go_loop [8] (fun iv => ∃ k : Nat, k ≤ l.length ∧ iv = .int .i64 k ∧ Hid (∀ j, j < k → decide (l[j]? = some z) = false)) (fun iv => l.length - (intOf iv).toNat)
  case atStart => exact ⟨0, Nat.zero_le _, rfl, fun j h => by omega⟩
  case round =>
    obtain ⟨k, hk, rfl, HD⟩ := hrel
    by_cases hlt : k < l.length
    · obtain ⟨ad, u, rfl, hb, hx, hc⟩ := HA.out.at_ hlt
      rw [show (l.map str)[k]? = some (str l[k]) by simp [hlt]] at hx
      injection hx with hx
      subst hx
      by_cases hz : l[k] = z
      · have hI : (z == l[k]) = true := by rw [beq_iff_eq]; exact hz.symm
        have HF := hide (firstIdx_at (p := fun k => decide (l[k]? = some z)) hlt (by rw [decide_eq_true_eq, List.getElem?_eq_getElem hlt, hz]) HD.out)
        clear hz
        generalize l[k] = y at hc hI
        go_wp2_with fail
        go_ret
        exact ⟨ret_i64' HF.out, rfl⟩
      · have hI : (z == l[k]) = false := by rw [beq_eq_false_iff_ne]; exact fun e => hz e.symm
        have HNX : Hid (∀ j, j < k + 1 → decide (l[j]? = some z) = false) := by
          intro j hj
          rcases Nat.lt_or_ge j k with h3 | h3
          · exact HD.out j h3
          · obtain rfl : j = k := by omega
            rw [decide_eq_false_iff_not, List.getElem?_eq_getElem hlt]
            intro e; injection e with e; exact hz e
        clear hz
        generalize l[k] = y at hc hI
        go_wp2_with fail
        go_round
        case rel => exact ⟨k + 1, by omega, by go_num, HNX⟩
        case measure => simp [intOf]; omega
    · obtain rfl : k = l.length := by omega
      have HF := hide (firstIdx_none HD.out)
      go_wp2_with fail
      go_ret
      exact ⟨ret_i64' HF.out, rfl⟩
theorem anyIdx_text (l : List (List UInt8)) (z : List UInt8) : anyIdx l.length (fun k => decide (l[k]? = some z)) = decide (z ∈ l) := by
  rw [Bool.eq_iff_iff, anyIdx_iff, decide_eq_true_eq, List.mem_iff_getElem?]
  constructor
  · rintro ⟨k, _, h⟩; exact ⟨k, by simpa using h⟩
  · rintro ⟨k, h⟩
    refine ⟨k, ?_, by simpa using h⟩
    rcases Nat.lt_or_ge k l.length with h1 | h1
    · exact h1
    · rw [List.getElem?_eq_none h1] at h; cases h
set_option maxRecDepth 100000 in
set_option maxHeartbeats 4000000 in
theorem contains_text (A : Option Addr) (B c : Nat) (l : List (List UInt8)) (z : List UInt8) (w : World) (ha : Reads w B 1 A l.length (l.map str)) (hl : l.length ≤ 1073741824) :
    Calls Tryz.prog 114 #[.slice A l.length c, str z] w (Ret1 w (.bool (decide (z ∈ l)))) := by
  have h := fun w' (h : w' = w) => index_text A B c l z w' (by rw [h]; exact ha) hl
  have HE := hide ((anyIdx_text l z).symm.trans (anyIdx_first l.length (fun k => decide (l[k]? = some z))))
  obtain ⟨y, HZ⟩ : ∃ y, Hid (firstIdx l.length (fun k => decide (l[k]? = some z)) = y) := ⟨_, hide rfl⟩
  rw [HZ.out] at HE h
  obtain ⟨y2, HZ2⟩ : ∃ y2, Hid (decide (z ∈ l) = y2) := ⟨_, hide rfl⟩
  rw [HZ2.out] at HE ⊢
  have h2 := h w rfl
  clear ha hl h
  go_enter Tryz.func114, Tryz.ntmps114
  go_wp2_with fail
  refine h2.mono ?_
  rintro e w1 ⟨rfl, rfl⟩
  clear h2
  go_wp2_with fail
  go_ret
  exact ⟨ret_bool HE.out, rfl⟩
set_option maxRecDepth 100000 in
set_option maxHeartbeats 4000000 in
theorem index_int (A : Option Addr) (B c : Nat) (l : List (Int)) (z : Int) (w : World) (ha : Reads w B 1 A l.length (ints l)) (hl : l.length ≤ 1073741824) :
    Calls Tryz.prog 168 #[.slice A l.length c, (Value.int .i64) z] w (Ret1 w (.int .i64 (firstIdx l.length fun k => decide (l[k]? = some z)))) := by
  have HA := hide ha
  clear ha
  go_enter Tryz.func168, Tryz.ntmps168
  go_wp2_with fail
  go_loop [8] (fun iv => ∃ k : Nat, k ≤ l.length ∧ iv = .int .i64 k ∧ Hid (∀ j, j < k → decide (l[j]? = some z) = false)) (fun iv => l.length - (intOf iv).toNat)
  case atStart => exact ⟨0, Nat.zero_le _, rfl, fun j h => by omega⟩
  case round =>
    obtain ⟨k, hk, rfl, HD⟩ := hrel
    by_cases hlt : k < l.length
    · obtain ⟨ad, u, rfl, hb, hx, hc⟩ := HA.out.at_ hlt
      rw [show (ints l)[k]? = some ((Value.int .i64) l[k]) by simp [ints, hlt]] at hx
      injection hx with hx
      subst hx
      by_cases hz : l[k] = z
      · have hI : (z == l[k]) = true := by rw [beq_iff_eq]; exact hz.symm
        have HF := hide (firstIdx_at (p := fun k => decide (l[k]? = some z)) hlt (by rw [decide_eq_true_eq, List.getElem?_eq_getElem hlt, hz]) HD.out)
        clear hz
        generalize l[k] = y at hc hI
        go_wp2_with fail
        go_ret
        exact ⟨ret_i64' HF.out, rfl⟩
      · have hI : (z == l[k]) = false := by rw [beq_eq_false_iff_ne]; exact fun e => hz e.symm
        have HNX : Hid (∀ j, j < k + 1 → decide (l[j]? = some z) = false) := by
          intro j hj
          rcases Nat.lt_or_ge j k with h3 | h3
          · exact HD.out j h3
          · obtain rfl : j = k := by omega
            rw [decide_eq_false_iff_not, List.getElem?_eq_getElem hlt]
            intro e; injection e with e; exact hz e
        clear hz
        generalize l[k] = y at hc hI
        go_wp2_with fail
        go_round
        case rel => exact ⟨k + 1, by omega, by go_num, HNX⟩
        case measure => simp [intOf]; omega
    · obtain rfl : k = l.length := by omega
      have HF := hide (firstIdx_none HD.out)
      go_wp2_with fail
      go_ret
      exact ⟨ret_i64' HF.out, rfl⟩
theorem anyIdx_int (l : List (Int)) (z : Int) : anyIdx l.length (fun k => decide (l[k]? = some z)) = decide (z ∈ l) := by
  rw [Bool.eq_iff_iff, anyIdx_iff, decide_eq_true_eq, List.mem_iff_getElem?]
  constructor
  · rintro ⟨k, _, h⟩; exact ⟨k, by simpa using h⟩
  · rintro ⟨k, h⟩
    refine ⟨k, ?_, by simpa using h⟩
    rcases Nat.lt_or_ge k l.length with h1 | h1
    · exact h1
    · rw [List.getElem?_eq_none h1] at h; cases h
set_option maxRecDepth 100000 in
set_option maxHeartbeats 4000000 in
theorem contains_int (A : Option Addr) (B c : Nat) (l : List (Int)) (z : Int) (w : World) (ha : Reads w B 1 A l.length (ints l)) (hl : l.length ≤ 1073741824) :
    Calls Tryz.prog 151 #[.slice A l.length c, (Value.int .i64) z] w (Ret1 w (.bool (decide (z ∈ l)))) := by
  have h := fun w' (h : w' = w) => index_int A B c l z w' (by rw [h]; exact ha) hl
  have HE := hide ((anyIdx_int l z).symm.trans (anyIdx_first l.length (fun k => decide (l[k]? = some z))))
  obtain ⟨y, HZ⟩ : ∃ y, Hid (firstIdx l.length (fun k => decide (l[k]? = some z)) = y) := ⟨_, hide rfl⟩
  rw [HZ.out] at HE h
  obtain ⟨y2, HZ2⟩ : ∃ y2, Hid (decide (z ∈ l) = y2) := ⟨_, hide rfl⟩
  rw [HZ2.out] at HE ⊢
  have h2 := h w rfl
  clear ha hl h
  go_enter Tryz.func151, Tryz.ntmps151
  go_wp2_with fail
  refine h2.mono ?_
  rintro e w1 ⟨rfl, rfl⟩
  clear h2
  go_wp2_with fail
  go_ret
  exact ⟨ret_bool HE.out, rfl⟩
set_option maxRecDepth 100000 in
set_option maxHeartbeats 4000000 in
theorem index_bool (A : Option Addr) (B c : Nat) (l : List (Bool)) (z : Bool) (w : World) (ha : Reads w B 1 A l.length (bools l)) (hl : l.length ≤ 1073741824) :
    Calls Tryz.prog 169 #[.slice A l.length c, Value.bool z] w (Ret1 w (.int .i64 (firstIdx l.length fun k => decide (l[k]? = some z)))) := by
  have HA := hide ha
  clear ha
  go_enter Tryz.func169, Tryz.ntmps169
  go_wp2_with fail
  go_loop [8] (fun iv => ∃ k : Nat, k ≤ l.length ∧ iv = .int .i64 k ∧ Hid (∀ j, j < k → decide (l[j]? = some z) = false)) (fun iv => l.length - (intOf iv).toNat)
  case atStart => exact ⟨0, Nat.zero_le _, rfl, fun j h => by omega⟩
  case round =>
    obtain ⟨k, hk, rfl, HD⟩ := hrel
    by_cases hlt : k < l.length
    · obtain ⟨ad, u, rfl, hb, hx, hc⟩ := HA.out.at_ hlt
      rw [show (bools l)[k]? = some (Value.bool l[k]) by simp [bools, hlt]] at hx
      injection hx with hx
      subst hx
      by_cases hz : l[k] = z
      · have hI : (z == l[k]) = true := by rw [beq_iff_eq]; exact hz.symm
        have HF := hide (firstIdx_at (p := fun k => decide (l[k]? = some z)) hlt (by rw [decide_eq_true_eq, List.getElem?_eq_getElem hlt, hz]) HD.out)
        clear hz
        generalize l[k] = y at hc hI
        go_wp2_with fail
        go_ret
        exact ⟨ret_i64' HF.out, rfl⟩
      · have hI : (z == l[k]) = false := by rw [beq_eq_false_iff_ne]; exact fun e => hz e.symm
        have HNX : Hid (∀ j, j < k + 1 → decide (l[j]? = some z) = false) := by
          intro j hj
          rcases Nat.lt_or_ge j k with h3 | h3
          · exact HD.out j h3
          · obtain rfl : j = k := by omega
            rw [decide_eq_false_iff_not, List.getElem?_eq_getElem hlt]
            intro e; injection e with e; exact hz e
        clear hz
        generalize l[k] = y at hc hI
        go_wp2_with fail
        go_round
        case rel => exact ⟨k + 1, by omega, by go_num, HNX⟩
        case measure => simp [intOf]; omega
    · obtain rfl : k = l.length := by omega
      have HF := hide (firstIdx_none HD.out)
      go_wp2_with fail
      go_ret
      exact ⟨ret_i64' HF.out, rfl⟩
theorem anyIdx_bool (l : List (Bool)) (z : Bool) : anyIdx l.length (fun k => decide (l[k]? = some z)) = decide (z ∈ l) := by
  rw [Bool.eq_iff_iff, anyIdx_iff, decide_eq_true_eq, List.mem_iff_getElem?]
  constructor
  · rintro ⟨k, _, h⟩; exact ⟨k, by simpa using h⟩
  · rintro ⟨k, h⟩
    refine ⟨k, ?_, by simpa using h⟩
    rcases Nat.lt_or_ge k l.length with h1 | h1
    · exact h1
    · rw [List.getElem?_eq_none h1] at h; cases h
set_option maxRecDepth 100000 in
set_option maxHeartbeats 4000000 in
theorem contains_bool (A : Option Addr) (B c : Nat) (l : List (Bool)) (z : Bool) (w : World) (ha : Reads w B 1 A l.length (bools l)) (hl : l.length ≤ 1073741824) :
    Calls Tryz.prog 152 #[.slice A l.length c, Value.bool z] w (Ret1 w (.bool (decide (z ∈ l)))) := by
  have h := fun w' (h : w' = w) => index_bool A B c l z w' (by rw [h]; exact ha) hl
  have HE := hide ((anyIdx_bool l z).symm.trans (anyIdx_first l.length (fun k => decide (l[k]? = some z))))
  obtain ⟨y, HZ⟩ : ∃ y, Hid (firstIdx l.length (fun k => decide (l[k]? = some z)) = y) := ⟨_, hide rfl⟩
  rw [HZ.out] at HE h
  obtain ⟨y2, HZ2⟩ : ∃ y2, Hid (decide (z ∈ l) = y2) := ⟨_, hide rfl⟩
  rw [HZ2.out] at HE ⊢
  have h2 := h w rfl
  clear ha hl h
  go_enter Tryz.func152, Tryz.ntmps152
  go_wp2_with fail
  refine h2.mono ?_
  rintro e w1 ⟨rfl, rfl⟩
  clear h2
  go_wp2_with fail
  go_ret
  exact ⟨ret_bool HE.out, rfl⟩
end Go.Proofs.YtdecgcdkaaiglaaGreat
namespace Go.Proofs.YtdecgcdkaaiglaaGreat
open Go.RowKit Go.Deep
attribute [local go_sem ↓] Go.wp_at_zero Go.wp_at_succ
set_option maxRecDepth 100000 in
set_option maxHeartbeats 4000000 in
theorem find_levels1 (A : Option Addr) (m c : Nat) (l : List Level) (g : Nat) (cv : Value) (p : Nat → Bool) (w : World) (ha : LevelsIs w (.slice A m c) l) (eg : ∀ args w, (callFunc g args).run Tryz.prog w = .ok (.enter g args) w)
    (hp : ∀ k (hk : k < l.length) w', Below w.heap.size w w' → Calls Tryz.prog g #[levelVal l[k], cv] w' (RetB w' (.bool (p k)))) :
    Calls Tryz.prog 118 #[.slice A m c, .func (.func g) #[] #[cv]] w (RetB w (.int .i64 (firstIdx l.length p))) := by
  have hm : m = l.length := by obtain ⟨A', c', e, _⟩ := ha; injection e
  have h1000 : l.length ≤ 1000 := by obtain ⟨A', c', e, _, _, h6, _⟩ := ha; exact h6
  subst hm
  have HA := hide ha
  have HP := hide hp
  have HW := hide (ext_refl w)
  clear ha hp
  go_enter Tryz.func118, Tryz.ntmps118
  go_wp2_with fail
  go_loopw [8] (FindR l.length p w) (fun iv _ => l.length - (intOf iv).toNat)
  case atStart => exact ⟨0, Nat.zero_le _, rfl, fun j h => by omega, HW⟩
  case round =>
    clear HW
    obtain ⟨k, hk, rfl, HD, HW⟩ := hrel
    by_cases hlt : k < l.length
    · obtain ⟨ad, rfl, hb, p0, p1⟩ := (HA.out.below HW.out).at_ hlt
      have hp := HP.out k hlt wr HW.out
      unfold levelVal at hp
      cases hpk : p k with
      | false =>
        rw [hpk] at hp
        have HNX : Hid (∀ j, j < k + 1 → p j = false) := by
          intro j hj
          rcases Nat.lt_or_ge j k with h3 | h3
          · exact HD.out j h3
          · obtain rfl : j = k := by omega
            exact hpk
        clear hpk
        go_wp2_with fail
        refine hp.mono ?_
        rintro e w1 ⟨rfl, hb1⟩
        have HW1 := hide (ext HW.out hb1)
        clear hb1 hp
        go_wp2_with fail
        go_round
        case rel => exact ⟨k + 1, by omega, by go_num, HNX, HW1⟩
        case measure => simp [intOf]; omega
      | true =>
        rw [hpk] at hp
        have HF := hide (firstIdx_at hlt hpk HD.out)
        clear hpk
        go_wp2_with fail
        refine hp.mono ?_
        rintro e w1 ⟨rfl, hb1⟩
        have HW1 := hide (ext HW.out hb1)
        clear hb1 hp
        go_wp2_with fail
        go_ret
        exact ⟨ret_i64' HF.out, HW1.out⟩
    · obtain rfl : k = l.length := by omega
      have HF := hide (firstIdx_none HD.out)
      go_wp2_with fail
      go_ret
      exact ⟨ret_i64' HF.out, HW.out⟩
set_option maxRecDepth 100000 in
set_option maxHeartbeats 4000000 in
theorem find_levels2 (A : Option Addr) (m c : Nat) (l : List Level) (g : Nat) (cv cv2 : Value) (p : Nat → Bool) (w : World) (ha : LevelsIs w (.slice A m c) l) (eg : ∀ args w, (callFunc g args).run Tryz.prog w = .ok (.enter g args) w)
    (hp : ∀ k (hk : k < l.length) w', Below w.heap.size w w' → Calls Tryz.prog g #[levelVal l[k], cv, cv2] w' (RetB w' (.bool (p k)))) :
    Calls Tryz.prog 118 #[.slice A m c, .func (.func g) #[] #[cv, cv2]] w (RetB w (.int .i64 (firstIdx l.length p))) := by
  have hm : m = l.length := by obtain ⟨A', c', e, _⟩ := ha; injection e
  have h1000 : l.length ≤ 1000 := by obtain ⟨A', c', e, _, _, h6, _⟩ := ha; exact h6
  subst hm
  have HA := hide ha
  have HP := hide hp
  have HW := hide (ext_refl w)
  clear ha hp
  go_enter Tryz.func118, Tryz.ntmps118
  go_wp2_with fail
  go_loopw [8] (FindR l.length p w) (fun iv _ => l.length - (intOf iv).toNat)
  case atStart => exact ⟨0, Nat.zero_le _, rfl, fun j h => by omega, HW⟩
  case round =>
    clear HW
    obtain ⟨k, hk, rfl, HD, HW⟩ := hrel
    by_cases hlt : k < l.length
    · obtain ⟨ad, rfl, hb, p0, p1⟩ := (HA.out.below HW.out).at_ hlt
      have hp := HP.out k hlt wr HW.out
      unfold levelVal at hp
      cases hpk : p k with
      | false =>
        rw [hpk] at hp
        have HNX : Hid (∀ j, j < k + 1 → p j = false) := by
          intro j hj
          rcases Nat.lt_or_ge j k with h3 | h3
          · exact HD.out j h3
          · obtain rfl : j = k := by omega
            exact hpk
        clear hpk
        go_wp2_with fail
        refine hp.mono ?_
        rintro e w1 ⟨rfl, hb1⟩
        have HW1 := hide (ext HW.out hb1)
        clear hb1 hp
        go_wp2_with fail
        go_round
        case rel => exact ⟨k + 1, by omega, by go_num, HNX, HW1⟩
        case measure => simp [intOf]; omega
      | true =>
        rw [hpk] at hp
        have HF := hide (firstIdx_at hlt hpk HD.out)
        clear hpk
        go_wp2_with fail
        refine hp.mono ?_
        rintro e w1 ⟨rfl, hb1⟩
        have HW1 := hide (ext HW.out hb1)
        clear hb1 hp
        go_wp2_with fail
        go_ret
        exact ⟨ret_i64' HF.out, HW1.out⟩
    · obtain rfl : k = l.length := by omega
      have HF := hide (firstIdx_none HD.out)
      go_wp2_with fail
      go_ret
      exact ⟨ret_i64' HF.out, HW.out⟩
set_option maxRecDepth 100000 in
set_option maxHeartbeats 4000000 in
theorem any_levels2 (A : Option Addr) (m c : Nat) (l : List Level) (g : Nat) (cv cv2 : Value) (p : Nat → Bool) (w : World) (ha : LevelsIs w (.slice A m c) l) (eg : ∀ args w, (callFunc g args).run Tryz.prog w = .ok (.enter g args) w)
    (hp : ∀ k (hk : k < l.length) w', Below w.heap.size w w' → Calls Tryz.prog g #[levelVal l[k], cv, cv2] w' (RetB w' (.bool (p k)))) :
    Calls Tryz.prog 166 #[.slice A m c, .func (.func g) #[] #[cv, cv2]] w (RetB w (.bool (anyIdx l.length p))) := by
  have h := fun w' (hw : Below w.heap.size w w') => find_levels2 A m c l g cv cv2 p w' (ha.below hw) eg (fun k hk w2 h2 => hp k hk w2 (ext hw h2))
  have HE := hide (anyIdx_first l.length p)
  obtain ⟨z, HZ⟩ : ∃ z, Hid (firstIdx l.length p = z) := ⟨_, hide rfl⟩
  rw [HZ.out] at HE h
  clear ha hp eg
  go_enter Tryz.func166, Tryz.ntmps166
  go_wp2_with fail
  refine (h _ (ext_refl w)).mono ?_
  rintro e w1 ⟨rfl, hb1⟩
  have HW1 := hide hb1
  clear hb1 h
  go_wp2_with fail
  go_ret
  exact ⟨ret_bool HE.out, HW1.out⟩
set_option maxRecDepth 100000 in
set_option maxHeartbeats 4000000 in
theorem find_texts (A : Option Addr) (m c : Nat) (l : List (List UInt8)) (g : Nat) (p : Nat → Bool) (w : World) (ha : NodesIs w (.slice A m c) l) (eg : ∀ args w, (callFunc g args).run Tryz.prog w = .ok (.enter g args) w)
    (hp : ∀ k (hk : k < l.length) w', Below w.heap.size w w' → Calls Tryz.prog g #[str l[k]] w' (RetB w' (.bool (p k)))) :
    Calls Tryz.prog 94 #[.slice A m c, .func (.func g) #[] #[]] w (RetB w (.int .i64 (firstIdx l.length p))) := by
  have hm : m = l.length := by obtain ⟨A', c', e, _⟩ := ha; injection e
  have h1000 : l.length ≤ 1000 := by obtain ⟨A', c', e, _, _, h6, _⟩ := ha; exact h6
  subst hm
  have HA := hide ha
  have HP := hide hp
  have HW := hide (ext_refl w)
  clear ha hp
  go_enter Tryz.func94, Tryz.ntmps94
  go_wp2_with fail
  go_loopw [8] (FindR l.length p w) (fun iv _ => l.length - (intOf iv).toNat)
  case atStart => exact ⟨0, Nat.zero_le _, rfl, fun j h => by omega, HW⟩
  case round =>
    clear HW
    obtain ⟨k, hk, rfl, HD, HW⟩ := hrel
    by_cases hlt : k < l.length
    · obtain ⟨ad, rfl, hb, p0⟩ := (HA.out.below HW.out).at_ hlt
      have hp := HP.out k hlt wr HW.out
      cases hpk : p k with
      | false =>
        rw [hpk] at hp
        have HNX : Hid (∀ j, j < k + 1 → p j = false) := by
          intro j hj
          rcases Nat.lt_or_ge j k with h3 | h3
          · exact HD.out j h3
          · obtain rfl : j = k := by omega
            exact hpk
        clear hpk
        go_wp2_with fail
        refine hp.mono ?_
        rintro e w1 ⟨rfl, hb1⟩
        have HW1 := hide (ext HW.out hb1)
        clear hb1 hp
        go_wp2_with fail
        go_round
        case rel => exact ⟨k + 1, by omega, by go_num, HNX, HW1⟩
        case measure => simp [intOf]; omega
      | true =>
        rw [hpk] at hp
        have HF := hide (firstIdx_at hlt hpk HD.out)
        clear hpk
        go_wp2_with fail
        refine hp.mono ?_
        rintro e w1 ⟨rfl, hb1⟩
        have HW1 := hide (ext HW.out hb1)
        clear hb1 hp
        go_wp2_with fail
        go_ret
        exact ⟨ret_i64' HF.out, HW1.out⟩
    · obtain rfl : k = l.length := by omega
      have HF := hide (firstIdx_none HD.out)
      go_wp2_with fail
      go_ret
      exact ⟨ret_i64' HF.out, HW.out⟩
set_option maxRecDepth 100000 in
set_option maxHeartbeats 4000000 in
theorem any_texts (A : Option Addr) (m c : Nat) (l : List (List UInt8)) (g : Nat) (p : Nat → Bool) (w : World) (ha : NodesIs w (.slice A m c) l) (eg : ∀ args w, (callFunc g args).run Tryz.prog w = .ok (.enter g args) w)
    (hp : ∀ k (hk : k < l.length) w', Below w.heap.size w w' → Calls Tryz.prog g #[str l[k]] w' (RetB w' (.bool (p k)))) :
    Calls Tryz.prog 50 #[.slice A m c, .func (.func g) #[] #[]] w (RetB w (.bool (anyIdx l.length p))) := by
  have h := fun w' (hw : Below w.heap.size w w') => find_texts A m c l g p w' (ha.below hw) eg (fun k hk w2 h2 => hp k hk w2 (ext hw h2))
  have HE := hide (anyIdx_first l.length p)
  obtain ⟨z, HZ⟩ : ∃ z, Hid (firstIdx l.length p = z) := ⟨_, hide rfl⟩
  rw [HZ.out] at HE h
  clear ha hp eg
  go_enter Tryz.func50, Tryz.ntmps50
  go_wp2_with fail
  refine (h _ (ext_refl w)).mono ?_
  rintro e w1 ⟨rfl, hb1⟩
  have HW1 := hide hb1
  clear hb1 h
  go_wp2_with fail
  go_ret
  exact ⟨ret_bool HE.out, HW1.out⟩
end Go.Proofs.YtdecgcdkaaiglaaGreat
namespace Go.Proofs.YtdecgcdkaaiglaaGreat
open Go.RowKit Go.Deep
attribute [local go_sem ↓] Go.wp_at_zero Go.wp_at_succ
theorem numbers_err (f : List UInt8 → Int) (a b : List UInt8) (h : f a = 0) : (if f a ≠ 0 then f a else f b) = f b := if_neg (by rw [h]; decide)
set_option maxRecDepth 100000 in
set_option maxHeartbeats 4000000 in
theorem water_numbers (f : List UInt8 → Int) (g : Nat) (eg : ∀ args w, (callFunc g args).run Tryz.prog w = .ok (.enter g args) w)
    (hg : ∀ (s : ByteArray) w, s.size ≤ 1073741824 → Calls Tryz.prog g #[.string s] w (RetB w (.int .i64 (f (bts s))))) (a b : ByteArray) (w : World) (ha : a.size ≤ 1073741824) (hb : b.size ≤ 1073741824) :
    Calls Tryz.prog 147 #[.string a, .string b, .func (.func g) #[] #[]] w (RetB w (.int .i64 (if f (bts a) ≠ 0 then f (bts a) else f (bts b)))) := by
  have h1 := fun w => hg a w ha
  have h2 := fun w => hg b w hb
  obtain ⟨r, HR⟩ : ∃ r, Hid ((if f (bts a) ≠ 0 then f (bts a) else f (bts b)) = r) := ⟨_, hide rfl⟩
  rw [HR.out]
  obtain ⟨x, HX⟩ : ∃ x, Hid (f (bts a) = x) := ⟨_, hide rfl⟩
  obtain ⟨y, HY⟩ : ∃ y, Hid (f (bts b) = y) := ⟨_, hide rfl⟩
  rw [HX.out] at HR h1
  rw [HY.out] at HR h2
  clear hg ha hb
  by_cases h0 : x = 0
  · have HF := hide ((if_neg (by rw [h0]; decide)).symm.trans HR.out : y = r).symm
    subst h0
    go_enter Tryz.func147, Tryz.ntmps147
    go_wp2_with fail
    refine (h1 _).mono ?_
    rintro e w1 ⟨rfl, hb1⟩
    have HB1 := hide hb1
    clear hb1 h1
    go_wp2_with fail
    refine (h2 _).mono ?_
    rintro e w2 ⟨rfl, hb2⟩
    have HB2 := hide (ext HB1.out hb2)
    clear hb2 h2
    go_wp2_with fail
    go_ret
    exact ⟨ret_i64' HF.out, HB2.out⟩
  · have hI : (x != 0) = true := by rw [bne_iff_ne]; exact h0
    have HF := hide ((if_pos h0).symm.trans HR.out : x = r).symm
    clear h0
    go_enter Tryz.func147, Tryz.ntmps147
    go_wp2_with fail
    refine (h1 _).mono ?_
    rintro e w1 ⟨rfl, hb1⟩
    have HB1 := hide hb1
    clear hb1 h1
    go_wp2_with fail
    go_ret
    exact ⟨ret_i64' HF.out, HB1.out⟩
set_option maxRecDepth 100000 in
set_option maxHeartbeats 4000000 in
theorem same_name (p : Pipe) (z : List UInt8) (b : Nat) (w : World) (hc : w.cell? ⟨b, 0, none⟩ = some (str z)) (hb : b < w.heap.size) :
    Calls Tryz.prog 146 #[pipeVal p, .pointer (some ⟨b, 0, none⟩)] w (RetB w (.bool (p.name == z))) := by
  unfold pipeVal
  have hx := ext_alloc w (.cells #[str p.name, .int .i64 p.from_, .int .i64 p.to_, str p.low, str p.high] 47)
  have HX := hide hx
  have hc2 := (hx.cell (p := ⟨b, 0, none⟩) hb).trans hc
  clear hx
  obtain ⟨r, HR⟩ : ∃ r, Hid ((p.name == z) = r) := ⟨_, hide rfl⟩
  rw [HR.out]
  have hr : (p.name == z) = r := HR.out
  go_enter Tryz.func146, Tryz.ntmps146
  go_wp2_with fail
  go_ret
  exact ⟨rfl, HX.out⟩
theorem PipesIs.take {w : World} {A : Option Addr} {m c : Nat} {l : List Pipe} (h : PipesIs w (.slice A m c) l) {k : Nat} (hk : k ≤ l.length) : PipesIs w (.slice A k c) (l.take k) := by
  obtain ⟨A', c', e, h2, h3, h6, h4, h5⟩ := h
  injection e with e1 e2 e3
  subst e1 e2 e3
  have hl : (l.take k).length = k := by rw [List.length_take]; omega
  refine ⟨A, c, by rw [hl], by omega, h3, by omega, ?_, fun x hx => h5 x (List.mem_of_mem_take hx)⟩
  have h7 := h4.head (k := k) hk
  rw [hl]
  have e : (pipesCells l).take (k * 5) = pipesCells (l.take k) := by
    clear h7 h4 h5 h6 h2 h3 hl
    induction l generalizing k with
    | nil => simp [pipesCells]
    | cons v l ih =>
      cases k with
      | zero => simp [pipesCells]
      | succ k =>
        have := ih (k := k) (by simpa using hk)
        have e2 : (k + 1) * 5 = k * 5 + 5 := by omega
        rw [e2]
        simpa [pipesCells, pipeCells] using this
  rw [e] at h7
  exact h7
theorem frac_zero : fracText 0 = [48] := by unfold fracText; simp [dec_zero]
theorem read_zero : readFrac [48] = some 0 := by
  rw [← frac_zero]
  exact readFrac_text ⟨by simp [dec_zero], by simp [dec_one]⟩
theorem less_read {la lb : List UInt8} {x y : Rat} (ha : readFrac la = some x) (hb : readFrac lb = some y) : decide ((cmp2 la lb).1 < 0) = decide (x < y) := by
  have e : cmp2 la lb = (cmpQ x y, 0) := by unfold cmp2; rw [ha, hb]
  rw [e, decide_eq_decide]
  simp only
  unfold cmpQ
  by_cases h : x < y
  · rw [if_pos h]; simp [h]
  · rw [if_neg h]
    split <;> simp [h]
theorem twice_any {l : List Pipe} {i : Nat} {z : List UInt8} (hi : i ≤ l.length) : anyIdx (l.take i).length (fun k => ((l.take i).getD k default).name == z) = decide (z ∈ (l.take i).map (·.name)) := by
  rw [Bool.eq_iff_iff, anyIdx_iff, decide_eq_true_eq, List.mem_map]
  constructor
  · rintro ⟨k, hk, h⟩
    rw [show (l.take i).getD k default = (l.take i)[k] by simp [List.getD, List.getElem?_eq_getElem hk]] at h
    exact ⟨_, List.getElem_mem hk, by simpa using h⟩
  · rintro ⟨x, hx, h⟩
    obtain ⟨k, hk, rfl⟩ := List.mem_iff_getElem.1 hx
    refine ⟨k, hk, ?_⟩
    rw [show (l.take i).getD k default = (l.take i)[k] by simp [List.getD, List.getElem?_eq_getElem hk]]
    simpa using h
set_option maxRecDepth 100000 in
set_option maxHeartbeats 8000000 in
theorem water_checkpipe (vn : Value) (n : Net) (i : Nat) (w : World) (hn : NetIs w vn n) (hi : i < n.pipes.length) :
    Calls Tryz.prog 115 #[vn, .int .i64 (i : Int)] w (RetB w (.int .i64 (n.pipeErr i))) := by
  obtain ⟨A0, k0, c0, A1, k1, c1, A2, k2, c2, A3, k3, c3, rfl, hn0, hn1, hn2, hn3⟩ := hn
  have hk0 : k0 = n.nodes.length := by obtain ⟨A', c', e, _⟩ := hn0; injection e
  have hk1 : k1 = n.pipes.length := by obtain ⟨A', c', e, _⟩ := hn1; injection e
  have hx := ext_alloc w (.cells #[.slice A0 k0 c0, .slice A1 k1 c1, .slice A2 k2 c2, .slice A3 k3 c3] 26)
  have hp := hn1.below hx
  obtain ⟨ad, rfl, hb, p0, p1, p2, p3, p4⟩ := hp.at_ hi
  have h1000 : k1 ≤ 1000 := by obtain ⟨A', c', e, _, _, h6, _⟩ := hn1; omega
  have hcap : k1 ≤ c1 := by obtain ⟨A', c', e, h, _⟩ := hn1; injection e; omega
  have hi1 : i < k1 := by omega
  have HK0 := hide hk0
  have HE := hide (pipeErr_get n hi)
  have HS : Hid (SmallS n.pipes[i].name ∧ SmallS n.pipes[i].low ∧ SmallS n.pipes[i].high) := by
    obtain ⟨A', c', e, _, _, h6, _, h7⟩ := hn1
    exact h7 _ (List.getElem_mem hi)
  have HPP := hide hn1
  have HX := hide hx
  clear hn0 hn1 hn2 hn3 hp hx hk0 hk1
  go_enter Tryz.func115, Tryz.ntmps115
  go_wp2_with fail
  have HKP : Hid (Blk ((w.alloc (.cells #[.slice A0 k0 c0, .slice (some ad) k1 c1, .slice A2 k2 c2, .slice A3 k3 c3] 26)).alloc (.cells #[str n.pipes[i].name, .int .i64 n.pipes[i].from_, .int .i64 n.pipes[i].to_, str n.pipes[i].low, str n.pipes[i].high] 47)) (w.heap.size + 1) 47 #[str n.pipes[i].name, .int .i64 n.pipes[i].from_, .int .i64 n.pipes[i].to_, str n.pipes[i].low, str n.pipes[i].high]) := by
    have h := Blk.new (w.alloc (.cells #[.slice A0 k0 c0, .slice (some ad) k1 c1, .slice A2 k2 c2, .slice A3 k3 c3] 26)) 47 #[str n.pipes[i].name, .int .i64 n.pipes[i].from_, .int .i64 n.pipes[i].to_, str n.pipes[i].low, str n.pipes[i].high]
    simp only [World.size_alloc] at h
    exact h
  have hy := ext_alloc (w.alloc (.cells #[.slice A0 k0 c0, .slice (some ad) k1 c1, .slice A2 k2 c2, .slice A3 k3 c3] 26)) (.cells #[str n.pipes[i].name, .int .i64 n.pipes[i].from_, .int .i64 n.pipes[i].to_, str n.pipes[i].low, str n.pipes[i].high] 47)
  have HKN := hide ((Blk.new w 26 #[.slice A0 k0 c0, .slice (some ad) k1 c1, .slice A2 k2 c2, .slice A3 k3 c3]).below hy (Blk.new w 26 #[.slice A0 k0 c0, .slice (some ad) k1 c1, .slice A2 k2 c2, .slice A3 k3 c3]).lt)
  have HW := hide (ext HX.out hy)
  clear HX p0 p1 p2 p3 p4 hb hy
  generalize (w.alloc (.cells #[.slice A0 k0 c0, .slice (some ad) k1 c1, .slice A2 k2 c2, .slice A3 k3 c3] 26)).alloc (.cells #[str n.pipes[i].name, .int .i64 n.pipes[i].from_, .int .i64 n.pipes[i].to_, str n.pipes[i].low, str n.pipes[i].high] 47) = W at HKP HKN HW ⊢
  have r0 := HKN.out.cell 0
  have r1 := HKN.out.cell 1
  have r2 := HKN.out.cell 2
  have r3 := HKN.out.cell 3
  have rL := HKN.out.lt
  have s0 := HKP.out.cell 0
  have s1 := HKP.out.cell 1
  have s2 := HKP.out.cell 2
  have s3 := HKP.out.cell 3
  have s4 := HKP.out.cell 4
  have sL := HKP.out.lt
  simp at r0 r1 r2 r3 s0 s1 s2 s3 s4
  have hnm := fun w => water_name ⟨n.pipes[i].name.toArray⟩ w (by have := HS.out.1; rw [← bts_length, bts_mk]; exact this)
  rw [bts_mk] at hnm
  refine (hnm _).mono ?_
  rintro e w1 ⟨rfl, rfl⟩
  cases hnm : isName n.pipes[i].name with
  | false =>
    have HF := hide (HE.out.trans (if_pos hnm))
    clear hnm
    go_wp2_with fail
    go_ret
    exact ⟨ret_i64' HF.out, HW.out⟩
  | true =>
    have HE2 := hide (HE.out.trans (if_neg (by rw [hnm]; decide)))
    clear hnm HE
    have htw := fun w' (h : Below W.heap.size W w') => any_pipes (some ad) i c1 (n.pipes.take i) 146 (.pointer (some ⟨w.heap.size + 1, 0, none⟩)) (fun k => ((n.pipes.take i).getD k default).name == n.pipes[i].name) w' ((HPP.out.below (ext HW.out h)).take (by omega)) (enters Tryz.func146 (by rfl) (by rfl)) (fun k hk w2 h2 => by
      have h3 := same_name (n.pipes.take i)[k] n.pipes[i].name (w.heap.size + 1) w2 (((ext h h2).cell (p := ⟨w.heap.size + 1, 0, none⟩) sL).trans s0) (Nat.lt_of_lt_of_le sL (ext h h2).size)
      rw [show (n.pipes.take i).getD k default = (n.pipes.take i)[k] by simp [List.getD, List.getElem?_eq_getElem hk]]
      exact h3)
    rw [twice_any (Nat.le_of_lt hi)] at htw
    have hic : (i : Int) ≤ (c1 : Int) := by omega
    go_wp2_with fail
    refine (htw _ (ext_refl W)).mono ?_
    rintro e WN ⟨rfl, hbB⟩
    try clear r0 r1 r2 r3 rL s0 s1 s2 s3 s4 sL
    have HKN_ := hide (HKN.out.below hbB HKN.out.lt)
    have HKP_ := hide (HKP.out.below hbB HKP.out.lt)
    have HW_ := hide (ext HW.out hbB)
    clear HKN HKP HW
    have HKN := HKN_
    have HKP := HKP_
    have HW := HW_
    clear HKN_ HKP_ HW_
    clear hbB
    have r0 := HKN.out.cell 0
    have r1 := HKN.out.cell 1
    have r2 := HKN.out.cell 2
    have r3 := HKN.out.cell 3
    have rL := HKN.out.lt
    have s0 := HKP.out.cell 0
    have s1 := HKP.out.cell 1
    have s2 := HKP.out.cell 2
    have s3 := HKP.out.cell 3
    have s4 := HKP.out.cell 4
    have sL := HKP.out.lt
    simp at r0 r1 r2 r3 s0 s1 s2 s3 s4
    clear htw
    by_cases hmem : n.pipes[i].name ∈ (n.pipes.take i).map (·.name)
    · have HF := hide (HE2.out.trans (if_pos hmem))
      rw [decide_eq_true hmem]
      clear hmem HE2
      go_wp2_with fail
      go_ret
      exact ⟨ret_i64' HF.out, HW.out⟩
    · have HE3 := hide (HE2.out.trans (if_neg hmem))
      rw [decide_eq_false hmem]
      clear hmem HE2
      rw [← HK0.out] at HE3
      by_cases hin : (decide (0 ≤ n.pipes[i].from_) && decide (n.pipes[i].from_ < (k0 : Int))) = false ∨ (decide (0 ≤ n.pipes[i].to_) && decide (n.pipes[i].to_ < (k0 : Int))) = false
      · have HF := hide (HE3.out.trans (if_pos hin))
        have hin2 : n.pipes[i].from_ < 0 ∨ (0 ≤ n.pipes[i].from_ ∧ (k0 : Int) ≤ n.pipes[i].from_) ∨ (0 ≤ n.pipes[i].from_ ∧ n.pipes[i].from_ < (k0 : Int) ∧ n.pipes[i].to_ < 0) ∨ (0 ≤ n.pipes[i].from_ ∧ n.pipes[i].from_ < (k0 : Int) ∧ 0 ≤ n.pipes[i].to_ ∧ (k0 : Int) ≤ n.pipes[i].to_) := by
          rw [Bool.and_eq_false_iff, Bool.and_eq_false_iff, decide_eq_false_iff_not, decide_eq_false_iff_not, decide_eq_false_iff_not, decide_eq_false_iff_not] at hin
          omega
        clear hin HE3
        generalize n.pipes[i].from_ = x at hin2 s1 HKP
        generalize n.pipes[i].to_ = y at hin2 s2 HKP
        rcases hin2 with hin2 | ⟨h1, h2⟩ | ⟨h1, h2, h3⟩ | ⟨h1, h2, h3, h4⟩
        all_goals
          go_wp2_with fail
          go_ret
          exact ⟨ret_i64' HF.out, HW.out⟩
      · have HE4 := hide (HE3.out.trans (if_neg hin))
        have hin2 : 0 ≤ n.pipes[i].from_ ∧ n.pipes[i].from_ < (k0 : Int) ∧ 0 ≤ n.pipes[i].to_ ∧ n.pipes[i].to_ < (k0 : Int) := by
          rw [Bool.and_eq_false_iff, Bool.and_eq_false_iff, decide_eq_false_iff_not, decide_eq_false_iff_not, decide_eq_false_iff_not, decide_eq_false_iff_not] at hin
          omega
        obtain ⟨h1, h2, h3, h4⟩ := hin2
        clear hin HE3
        by_cases hft : n.pipes[i].from_ = n.pipes[i].to_
        · have hI : (n.pipes[i].from_ == n.pipes[i].to_) = true := by rw [beq_iff_eq]; exact hft
          have HF := hide (HE4.out.trans (if_pos hft))
          clear hft HE4
          go_wp2_with fail
          go_ret
          exact ⟨ret_i64' HF.out, HW.out⟩
        · have hI : (n.pipes[i].from_ == n.pipes[i].to_) = false := by rw [beq_eq_false_iff_ne]; exact hft
          have HE5 := hide (HE4.out.trans (if_neg hft))
          have hnu := fun w => water_numbers numErr 148 (enters Tryz.func148 (by rfl) (by rfl)) (fun s w h => water_number s w h) ⟨n.pipes[i].low.toArray⟩ ⟨n.pipes[i].high.toArray⟩ w (by have := HS.out.2.1; rw [← bts_length, bts_mk]; exact this) (by have := HS.out.2.2; rw [← bts_length, bts_mk]; exact this)
          rw [bts_mk, bts_mk] at hnu
          clear hft HE4
          go_wp2_with fail
          refine (hnu _).mono ?_
          rintro e WN ⟨rfl, hbB⟩
          try clear r0 r1 r2 r3 rL s0 s1 s2 s3 s4 sL
          have HKN_ := hide (HKN.out.below hbB HKN.out.lt)
          have HKP_ := hide (HKP.out.below hbB HKP.out.lt)
          have HW_ := hide (ext HW.out hbB)
          clear HKN HKP HW
          have HKN := HKN_
          have HKP := HKP_
          have HW := HW_
          clear HKN_ HKP_ HW_
          clear hbB
          have r0 := HKN.out.cell 0
          have r1 := HKN.out.cell 1
          have r2 := HKN.out.cell 2
          have r3 := HKN.out.cell 3
          have rL := HKN.out.lt
          have s0 := HKP.out.cell 0
          have s1 := HKP.out.cell 1
          have s2 := HKP.out.cell 2
          have s3 := HKP.out.cell 3
          have s4 := HKP.out.cell 4
          have sL := HKP.out.lt
          simp at r0 r1 r2 r3 s0 s1 s2 s3 s4
          clear hnu
          by_cases h0 : numErr n.pipes[i].low = 0
          · have HE6 := hide (HE5.out.trans (if_neg (by rw [h0]; decide)))
            rw [numbers_err numErr _ _ h0]
            clear HE5
            by_cases h0' : numErr n.pipes[i].high = 0
            · have HE7 := hide (HE6.out.trans (if_neg (by rw [h0']; decide)))
              rw [h0']
              clear HE6
              obtain ⟨ql, hl1, hl2, hl3, _⟩ := numErr_ok h0
              obtain ⟨qh, hh1, hh2, hh3, _⟩ := numErr_ok h0'
              rw [hl3, hh3] at HE7
              have hsl : (⟨n.pipes[i].low.toArray⟩ : ByteArray).size ≤ 1073741824 := by have := HS.out.2.1; rw [← bts_length, bts_mk]; exact this
              have hsh : (⟨n.pipes[i].high.toArray⟩ : ByteArray).size ≤ 1073741824 := by have := HS.out.2.2; rw [← bts_length, bts_mk]; exact this
              have l1 : ∀ w, Calls Tryz.prog 149 #[.string ⟨#[48]⟩, str n.pipes[i].low] w (RetB w (.bool (decide (0 < ql)))) := by
                intro w
                have h := water_less ⟨#[48]⟩ ⟨n.pipes[i].low.toArray⟩ w (by decide) hsl
                rw [show bts ⟨#[48]⟩ = [48] from rfl, bts_mk, less_read read_zero hl1] at h
                exact h
              have l2 : ∀ w, Calls Tryz.prog 149 #[str n.pipes[i].high, str n.pipes[i].low] w (RetB w (.bool (decide (qh < ql)))) := by
                intro w
                have h := water_less ⟨n.pipes[i].high.toArray⟩ ⟨n.pipes[i].low.toArray⟩ w hsh hsl
                rw [bts_mk, bts_mk, less_read hh1 hl1] at h
                exact h
              generalize str n.pipes[i].low = sl at HKP s3 l1 l2
              generalize str n.pipes[i].high = sh at HKP s4 l2
              clear hl1 hl2 hl3 hh1 hh2 hh3 h0 h0' hsl hsh HS
              by_cases hs : ql ≤ 0
              · have HF := hide (HE7.out.trans (if_pos (.inl hs)))
                rw [show decide (0 < ql) = false from decide_eq_false (Rat.not_lt.2 hs)] at l1
                clear hs HE7 l2
                go_wp2_with fail
                refine (l1 _).mono ?_
                rintro e WN ⟨rfl, hbB⟩
                try clear r0 r1 r2 r3 rL s0 s1 s2 s3 s4 sL
                have HKN_ := hide (HKN.out.below hbB HKN.out.lt)
                have HKP_ := hide (HKP.out.below hbB HKP.out.lt)
                have HW_ := hide (ext HW.out hbB)
                clear HKN HKP HW
                have HKN := HKN_
                have HKP := HKP_
                have HW := HW_
                clear HKN_ HKP_ HW_
                clear hbB
                have r0 := HKN.out.cell 0
                have r1 := HKN.out.cell 1
                have r2 := HKN.out.cell 2
                have r3 := HKN.out.cell 3
                have rL := HKN.out.lt
                have s0 := HKP.out.cell 0
                have s1 := HKP.out.cell 1
                have s2 := HKP.out.cell 2
                have s3 := HKP.out.cell 3
                have s4 := HKP.out.cell 4
                have sL := HKP.out.lt
                simp at r0 r1 r2 r3 s0 s1 s2 s3 s4
                clear l1
                go_wp2_with fail
                go_ret
                exact ⟨ret_i64' HF.out, HW.out⟩
              · rw [show decide (0 < ql) = true from decide_eq_true (Rat.not_le.1 hs)] at l1
                by_cases hlt : qh < ql
                · have HF := hide (HE7.out.trans (if_pos (.inr hlt)))
                  rw [decide_eq_true hlt] at l2
                  clear hs hlt HE7
                  go_wp2_with fail
                  refine (l1 _).mono ?_
                  rintro e WN ⟨rfl, hbB⟩
                  try clear r0 r1 r2 r3 rL s0 s1 s2 s3 s4 sL
                  have HKN_ := hide (HKN.out.below hbB HKN.out.lt)
                  have HKP_ := hide (HKP.out.below hbB HKP.out.lt)
                  have HW_ := hide (ext HW.out hbB)
                  clear HKN HKP HW
                  have HKN := HKN_
                  have HKP := HKP_
                  have HW := HW_
                  clear HKN_ HKP_ HW_
                  clear hbB
                  have r0 := HKN.out.cell 0
                  have r1 := HKN.out.cell 1
                  have r2 := HKN.out.cell 2
                  have r3 := HKN.out.cell 3
                  have rL := HKN.out.lt
                  have s0 := HKP.out.cell 0
                  have s1 := HKP.out.cell 1
                  have s2 := HKP.out.cell 2
                  have s3 := HKP.out.cell 3
                  have s4 := HKP.out.cell 4
                  have sL := HKP.out.lt
                  simp at r0 r1 r2 r3 s0 s1 s2 s3 s4
                  go_wp2_with fail
                  refine (l2 _).mono ?_
                  rintro e WN ⟨rfl, hbB⟩
                  try clear r0 r1 r2 r3 rL s0 s1 s2 s3 s4 sL
                  have HKN_ := hide (HKN.out.below hbB HKN.out.lt)
                  have HKP_ := hide (HKP.out.below hbB HKP.out.lt)
                  have HW_ := hide (ext HW.out hbB)
                  clear HKN HKP HW
                  have HKN := HKN_
                  have HKP := HKP_
                  have HW := HW_
                  clear HKN_ HKP_ HW_
                  clear hbB
                  have r0 := HKN.out.cell 0
                  have r1 := HKN.out.cell 1
                  have r2 := HKN.out.cell 2
                  have r3 := HKN.out.cell 3
                  have rL := HKN.out.lt
                  have s0 := HKP.out.cell 0
                  have s1 := HKP.out.cell 1
                  have s2 := HKP.out.cell 2
                  have s3 := HKP.out.cell 3
                  have s4 := HKP.out.cell 4
                  have sL := HKP.out.lt
                  simp at r0 r1 r2 r3 s0 s1 s2 s3 s4
                  clear l1 l2
                  go_wp2_with fail
                  go_ret
                  exact ⟨ret_i64' HF.out, HW.out⟩
                · have HF := hide (HE7.out.trans (if_neg (by rintro (h | h); exact hs h; exact hlt h)))
                  rw [decide_eq_false hlt] at l2
                  clear hs hlt HE7
                  go_wp2_with fail
                  refine (l1 _).mono ?_
                  rintro e WN ⟨rfl, hbB⟩
                  try clear r0 r1 r2 r3 rL s0 s1 s2 s3 s4 sL
                  have HKN_ := hide (HKN.out.below hbB HKN.out.lt)
                  have HKP_ := hide (HKP.out.below hbB HKP.out.lt)
                  have HW_ := hide (ext HW.out hbB)
                  clear HKN HKP HW
                  have HKN := HKN_
                  have HKP := HKP_
                  have HW := HW_
                  clear HKN_ HKP_ HW_
                  clear hbB
                  have r0 := HKN.out.cell 0
                  have r1 := HKN.out.cell 1
                  have r2 := HKN.out.cell 2
                  have r3 := HKN.out.cell 3
                  have rL := HKN.out.lt
                  have s0 := HKP.out.cell 0
                  have s1 := HKP.out.cell 1
                  have s2 := HKP.out.cell 2
                  have s3 := HKP.out.cell 3
                  have s4 := HKP.out.cell 4
                  have sL := HKP.out.lt
                  simp at r0 r1 r2 r3 s0 s1 s2 s3 s4
                  go_wp2_with fail
                  refine (l2 _).mono ?_
                  rintro e WN ⟨rfl, hbB⟩
                  try clear r0 r1 r2 r3 rL s0 s1 s2 s3 s4 sL
                  have HKN_ := hide (HKN.out.below hbB HKN.out.lt)
                  have HKP_ := hide (HKP.out.below hbB HKP.out.lt)
                  have HW_ := hide (ext HW.out hbB)
                  clear HKN HKP HW
                  have HKN := HKN_
                  have HKP := HKP_
                  have HW := HW_
                  clear HKN_ HKP_ HW_
                  clear hbB
                  have r0 := HKN.out.cell 0
                  have r1 := HKN.out.cell 1
                  have r2 := HKN.out.cell 2
                  have r3 := HKN.out.cell 3
                  have rL := HKN.out.lt
                  have s0 := HKP.out.cell 0
                  have s1 := HKP.out.cell 1
                  have s2 := HKP.out.cell 2
                  have s3 := HKP.out.cell 3
                  have s4 := HKP.out.cell 4
                  have sL := HKP.out.lt
                  simp at r0 r1 r2 r3 s0 s1 s2 s3 s4
                  clear l1 l2
                  go_wp2_with fail
                  go_ret
                  exact ⟨ret_i64' HF.out, HW.out⟩
            · have hI2 : (numErr n.pipes[i].high != 0) = true := by rw [bne_iff_ne]; exact h0'
              have HF := hide (HE6.out.trans (if_pos h0'))
              clear HE6
              generalize numErr n.pipes[i].high = ev at hI2 HF ⊢
              go_wp2_with fail
              go_ret
              exact ⟨ret_i64' HF.out, HW.out⟩
          · have hI2 : (numErr n.pipes[i].low != 0) = true := by rw [bne_iff_ne]; exact h0
            have HF := hide (HE5.out.trans (if_pos h0))
            rw [if_pos h0]
            clear HE5
            generalize numErr n.pipes[i].low = ev at hI2 HF ⊢
            go_wp2_with fail
            go_ret
            exact ⟨ret_i64' HF.out, HW.out⟩
end Go.Proofs.YtdecgcdkaaiglaaGreat
namespace Go.Proofs.YtdecgcdkaaiglaaGreat
open Go.RowKit Go.Deep
attribute [local go_sem ↓] Go.wp_at_zero Go.wp_at_succ
set_option maxRecDepth 100000 in
set_option maxHeartbeats 4000000 in
theorem same_node (v : Level) (z : Int) (b : Nat) (w : World) (hc : w.cell? ⟨b, 0, none⟩ = some (.int .i64 z)) (hb : b < w.heap.size) :
    Calls Tryz.prog 119 #[levelVal v, .pointer (some ⟨b, 0, none⟩)] w (RetB w (.bool (v.node == z))) := by
  unfold levelVal
  have hx := ext_alloc w (.cells #[.int .i64 v.node, str v.value] 49)
  have HX := hide hx
  have hc2 := (hx.cell (p := ⟨b, 0, none⟩) hb).trans hc
  clear hx
  obtain ⟨r, HR⟩ : ∃ r, Hid ((v.node == z) = r) := ⟨_, hide rfl⟩
  rw [HR.out]
  have hr : (v.node == z) = r := HR.out
  go_enter Tryz.func119, Tryz.ntmps119
  go_wp2_with fail
  go_ret
  exact ⟨rfl, HX.out⟩
set_option maxRecDepth 100000 in
set_option maxHeartbeats 4000000 in
theorem same_level (v : Level) (l : List Level) (i : Nat) (A : Option Addr) (m c : Nat) (b b2 : Nat) (w : World) (hc : w.cell? ⟨b, 0, none⟩ = some (.slice A m c)) (hb : b < w.heap.size)
    (hc2 : w.cell? ⟨b2, 0, none⟩ = some (.int .i64 (i : Int))) (hb2 : b2 < w.heap.size) (hl : LevelsIs w (.slice A m c) l) (hi : i < l.length) :
    Calls Tryz.prog 167 #[levelVal v, .pointer (some ⟨b, 0, none⟩), .pointer (some ⟨b2, 0, none⟩)] w (RetB w (.bool (v.node == l[i].node))) := by
  unfold levelVal
  have hm : m = l.length := by obtain ⟨A', c', e, _⟩ := hl; injection e
  have h1000 : l.length ≤ 1000 := by obtain ⟨A', c', e, _, _, h6, _⟩ := hl; exact h6
  subst hm
  obtain ⟨ad, rfl, hba, p0, p1⟩ := hl.at_ hi
  have hx := ext_alloc w (.cells #[.int .i64 v.node, str v.value] 49)
  have HX := hide hx
  have q1 := (hx.cell (p := ⟨b, 0, none⟩) hb).trans hc
  have q2 := (hx.cell (p := ⟨b2, 0, none⟩) hb2).trans hc2
  have q3 := (hx.cell (p := ad.add (i * 2)) (by rw [block_of_add]; exact hba)).trans p0
  have hk := Blk.new w 49 #[.int .i64 v.node, str v.value]
  have q4 : (w.alloc (.cells #[.int .i64 v.node, str v.value] 49)).cell? ⟨w.heap.size, 0, none⟩ = some (.int .i64 v.node) := by rw [hk.cell 0]; rfl
  have q5 := hk.lt
  have hij : (i : Int) < (l.length : Int) := by omega
  clear hc hc2 p0 p1 hl hx hk
  obtain ⟨r, HR⟩ : ∃ r, Hid ((v.node == l[i].node) = r) := ⟨_, hide rfl⟩
  rw [HR.out]
  have hr : (v.node == l[i].node) = r := HR.out
  go_enter Tryz.func167, Tryz.ntmps167
  go_wp2_with fail
  generalize w.alloc (.cells #[.int .i64 v.node, str v.value] 49) = W at HX q1 q2 q3 q4 q5 ⊢
  generalize l[i].node = y at q3 hr HR
  generalize v.node = x at q4 hr HR
  go_quiet (fail)
  go_wp2_with fail
  go_ret
  exact ⟨rfl, below_drewN HX.out _⟩
theorem twice_level {l : List Level} {i : Nat} {z : Int} (hi : i ≤ l.length) : anyIdx (l.take i).length (fun k => ((l.take i).getD k default).node == z) = decide (z ∈ (l.take i).map (·.node)) := by
  rw [Bool.eq_iff_iff, anyIdx_iff, decide_eq_true_eq, List.mem_map]
  constructor
  · rintro ⟨k, hk, h⟩
    rw [show (l.take i).getD k default = (l.take i)[k] by simp [List.getD, List.getElem?_eq_getElem hk]] at h
    exact ⟨_, List.getElem_mem hk, by simpa using h⟩
  · rintro ⟨x, hx, h⟩
    obtain ⟨k, hk, rfl⟩ := List.mem_iff_getElem.1 hx
    refine ⟨k, hk, ?_⟩
    rw [show (l.take i).getD k default = (l.take i)[k] by simp [List.getD, List.getElem?_eq_getElem hk]]
    simpa using h
/-- the value of a node in a list, "0" if it has none -/
def levelText (l : List Level) (z : Int) : List UInt8 := ((l.find? fun v => v.node == z).map (·.value)).getD [48]
def RetLT (l : List Level) (z : Int) (w : World) (e : Ending) (w' : World) : Prop := e = .returned (.tuple #[str (levelText l z), .bool (l.find? (fun v => v.node == z)).isSome]) ∧ Below w.heap.size w w'
theorem find_firstIdx (l : List Level) (z : Int) : (∃ k, ∃ hk : k < l.length, firstIdx l.length (fun k => (l.getD k default).node == z) = (k : Int) ∧ l.find? (fun v => v.node == z) = some l[k]) ∨
    (firstIdx l.length (fun k => (l.getD k default).node == z) = -1 ∧ l.find? (fun v => v.node == z) = none) := by
  have hg : ∀ k (h : k < l.length), l.getD k default = l[k] := fun k h => by simp [List.getD, List.getElem?_eq_getElem h]
  rcases firstIdx_cases l.length (fun k => (l.getD k default).node == z) with ⟨k, hk, hp, h0, e⟩ | ⟨h0, e⟩
  · refine .inl ⟨k, hk, e, find_first hk (fun j hj hjk => ?_) ?_⟩
    · have := h0 j hjk; rw [hg j hj] at this; simpa using this
    · rw [hg k hk] at hp; simpa using hp
  · refine .inr ⟨e, find_none fun j hj => ?_⟩
    have := h0 j hj; rw [hg j hj] at this; simpa using this
set_option maxRecDepth 100000 in
set_option maxHeartbeats 4000000 in
theorem water_level (va : Value) (l : List Level) (z : Int) (w : World) (ha : LevelsIs w va l) :
    Calls Tryz.prog 79 #[va, .int .i64 z] w (RetLT l z w) := by
  obtain ⟨A, c, rfl, h2, h3, h6, h4, h5⟩ := ha
  have HA : Hid (LevelsIs w (.slice A l.length c) l) := hide ⟨A, c, rfl, h2, h3, h6, h4, h5⟩
  have hx := ext_alloc w (.cells #[.int .i64 z] 3)
  have hk := Blk.new w 3 #[.int .i64 z]
  have HX := hide hx
  have hc : (w.alloc (.cells #[.int .i64 z] 3)).cell? ⟨w.heap.size, 0, none⟩ = some (.int .i64 z) := by rw [hk.cell 0]; rfl
  have hl := hk.lt
  have hf := fun w' (h : Below (w.alloc (.cells #[.int .i64 z] 3)).heap.size (w.alloc (.cells #[.int .i64 z] 3)) w') => find_levels1 A l.length c l 119 (.pointer (some ⟨w.heap.size, 0, none⟩)) (fun k => (l.getD k default).node == z) w' (HA.out.below (ext HX.out h)) (enters Tryz.func119 (by rfl) (by rfl)) (fun k hk w2 hw2 => by
    have h3 := same_node l[k] z w.heap.size w2 (((ext h hw2).cell (p := ⟨w.heap.size, 0, none⟩) hl).trans hc) (Nat.lt_of_lt_of_le hl (ext h hw2).size)
    rw [show l.getD k default = l[k] by simp [List.getD, List.getElem?_eq_getElem hk]]
    exact h3)
  clear h2 h3 h4 h5 hx hk
  unfold RetLT levelText
  rcases find_firstIdx l z with ⟨k, hk, e1, e2⟩ | ⟨e1, e2⟩
  · rw [e1] at hf
    rw [e2]
    obtain ⟨ad, rfl, hb, q0, q1⟩ := HA.out.at_ hk
    have HQ := hide (And.intro hb q1)
    clear e1 e2 hc hl q0 q1 hb
    go_enter Tryz.func79, Tryz.ntmps79
    go_wp2_with fail
    refine (hf _ (ext_refl _)).mono ?_
    rintro e w1 ⟨rfl, hb1⟩
    have hxx := ext HX.out hb1
    have q1 := (hxx.cell (p := ⟨(ad.add (k * 2)).block, (ad.add (k * 2)).off + 1, none⟩) (by simp only [block_of_add]; exact HQ.out.1)).trans HQ.out.2
    have HX1 := hide hxx
    clear hf hb1 hxx
    go_wp2_with fail
    go_ret2
    exact ⟨rfl, HX1.out⟩
  · rw [e1] at hf
    rw [e2]
    clear e1 e2 hc hl
    go_enter Tryz.func79, Tryz.ntmps79
    go_wp2_with fail
    refine (hf _ (ext_refl _)).mono ?_
    rintro e w1 ⟨rfl, hb1⟩
    have HX1 := hide (ext HX.out hb1)
    clear hf hb1
    go_wp2_with fail
    go_ret2
    exact ⟨rfl, HX1.out⟩
theorem blk_back {w w' : World} {g : Nat} {t : TypeId} {cs : Array Value} (h : Blk w g t cs) (hb : Below w.heap.size w w') : Blk w' g t cs := h.below hb h.lt
set_option maxRecDepth 100000 in
set_option maxHeartbeats 8000000 in
theorem water_checklevel (vn va : Value) (n : Net) (l : List Level) (i : Nat) (w : World) (hn : NetIs w vn n) (ha : LevelsIs w va l) (hi : i < l.length) :
    Calls Tryz.prog 150 #[vn, va, .int .i64 (i : Int)] w (RetB w (.int .i64 (n.levelErr l i))) := by
  obtain ⟨A0, k0, c0, A1, k1, c1, A2, k2, c2, A3, k3, c3, rfl, hn0, hn1, hn2, hn3⟩ := hn
  have hk0 : k0 = n.nodes.length := by obtain ⟨A', c', e, _⟩ := hn0; injection e
  have hk1000 : k0 ≤ 1000 := by obtain ⟨A', c', e, _, _, h6, _⟩ := hn0; omega
  obtain ⟨A, c, rfl, h2, h3, h6, h4, h5⟩ := ha
  have HL : Hid (LevelsIs w (.slice A l.length c) l) := hide ⟨A, c, rfl, h2, h3, h6, h4, h5⟩
  obtain ⟨ad, rfl, hb, p0, p1⟩ := HL.out.at_ hi
  have HSM := hide (h5 _ (List.getElem_mem hi))
  have b1 := ext_alloc w (.cells #[.slice A0 k0 c0, .slice A1 k1 c1, .slice A2 k2 c2, .slice A3 k3 c3] 26)
  have b2 := ext_alloc (w.alloc (.cells #[.slice A0 k0 c0, .slice A1 k1 c1, .slice A2 k2 c2, .slice A3 k3 c3] 26)) (.cells #[.slice (some ad) l.length c] 24)
  have b3 := ext_alloc ((w.alloc (.cells #[.slice A0 k0 c0, .slice A1 k1 c1, .slice A2 k2 c2, .slice A3 k3 c3] 26)).alloc (.cells #[.slice (some ad) l.length c] 24)) (.cells #[.int .i64 (i : Int)] 3)
  have HW := hide (ext (ext b1 b2) b3)
  have HK := hide (blk_back (Blk.new w 26 #[.slice A0 k0 c0, .slice A1 k1 c1, .slice A2 k2 c2, .slice A3 k3 c3]) (ext b2 b3))
  have HK2 : Hid (Blk (((w.alloc (.cells #[.slice A0 k0 c0, .slice A1 k1 c1, .slice A2 k2 c2, .slice A3 k3 c3] 26)).alloc (.cells #[.slice (some ad) l.length c] 24)).alloc (.cells #[.int .i64 (i : Int)] 3)) (w.heap.size + 1) 24 #[.slice (some ad) l.length c]) := by
    have h := blk_back (Blk.new (w.alloc (.cells #[.slice A0 k0 c0, .slice A1 k1 c1, .slice A2 k2 c2, .slice A3 k3 c3] 26)) 24 #[.slice (some ad) l.length c]) b3
    simp only [World.size_alloc] at h
    exact h
  have HK3 : Hid (Blk (((w.alloc (.cells #[.slice A0 k0 c0, .slice A1 k1 c1, .slice A2 k2 c2, .slice A3 k3 c3] 26)).alloc (.cells #[.slice (some ad) l.length c] 24)).alloc (.cells #[.int .i64 (i : Int)] 3)) (w.heap.size + 2) 3 #[.int .i64 (i : Int)]) := by
    have h := Blk.new ((w.alloc (.cells #[.slice A0 k0 c0, .slice A1 k1 c1, .slice A2 k2 c2, .slice A3 k3 c3] 26)).alloc (.cells #[.slice (some ad) l.length c] 24)) 3 #[.int .i64 (i : Int)]
    simp only [World.size_alloc] at h
    exact h
  have HE := hide (levelErr_get n hi)
  rw [← hk0] at HE
  clear hn0 hn1 hn2 hn3 h4 h5 h3 hk0 b1 b2 b3 hb p0 p1
  go_enter Tryz.func150, Tryz.ntmps150
  go_wp2_with fail
  generalize (((w.alloc (.cells #[.slice A0 k0 c0, .slice A1 k1 c1, .slice A2 k2 c2, .slice A3 k3 c3] 26)).alloc (.cells #[.slice (some ad) l.length c] 24)).alloc (.cells #[.int .i64 (i : Int)] 3)) = W at HW HK HK2 HK3 ⊢
  have r0 := HK.out.cell 0
  have r1 := HK.out.cell 1
  have r2 := HK.out.cell 2
  have r3 := HK.out.cell 3
  have rL := HK.out.lt
  have s0 := HK2.out.cell 0
  have sL := HK2.out.lt
  have t0 := HK3.out.cell 0
  have tL := HK3.out.lt
  simp at r0 r1 r2 r3 s0 t0
  have hij : (i : Int) < (l.length : Int) := by omega
  have hic : (i : Int) ≤ (c : Int) := by omega
  obtain ⟨ad1, e1, hb, p0, p1⟩ := (HL.out.below HW.out).at_ hi
  injection e1 with e1
  subst e1
  have HQ := hide (And.intro hb p1)
  by_cases hin : (decide (0 ≤ l[i].node) && decide (l[i].node < (k0 : Int))) = false
  · have HF := hide (HE.out.trans (if_pos hin))
    rw [Bool.and_eq_false_iff, decide_eq_false_iff_not, decide_eq_false_iff_not] at hin
    by_cases hneg : l[i].node < 0
    · have hd : decide (l[i].node < 0) = true := decide_eq_true hneg
      clear hin HE p1
      generalize l[i].node = x at p0 hneg hd
      go_quiet (fail)
      have hbB := ext_drewN W nq
      try clear r0 r1 r2 r3 rL s0 sL t0 tL
      have HK_ := hide (HK.out.below hbB HK.out.lt)
      have HK2_ := hide (HK2.out.below hbB HK2.out.lt)
      have HK3_ := hide (HK3.out.below hbB HK3.out.lt)
      have HW_ := hide (ext HW.out hbB)
      clear HK HK2 HK3 HW
      have HK := HK_
      have HK2 := HK2_
      have HK3 := HK3_
      have HW := HW_
      clear HK_ HK2_ HK3_ HW_
      clear hbB
      generalize W.drewN nq = WN at HK HK2 HK3 HW ⊢
      clear nq
      have r0 := HK.out.cell 0
      have r1 := HK.out.cell 1
      have r2 := HK.out.cell 2
      have r3 := HK.out.cell 3
      have rL := HK.out.lt
      have s0 := HK2.out.cell 0
      have sL := HK2.out.lt
      have t0 := HK3.out.cell 0
      have tL := HK3.out.lt
      simp at r0 r1 r2 r3 s0 t0
      go_wp2_with fail
      go_ret
      exact ⟨ret_i64' HF.out, HW.out⟩
    · have hge : (k0 : Int) ≤ l[i].node := by omega
      have hnn : 0 ≤ l[i].node := by omega
      have hd : decide (l[i].node < 0) = false := decide_eq_false hneg
      clear hin HE p1 hneg
      generalize l[i].node = x at p0 hnn hd hge
      go_quiet (fail)
      have hbB := ext_drewN W nq
      try clear r0 r1 r2 r3 rL s0 sL t0 tL
      have HK_ := hide (HK.out.below hbB HK.out.lt)
      have HK2_ := hide (HK2.out.below hbB HK2.out.lt)
      have HK3_ := hide (HK3.out.below hbB HK3.out.lt)
      have HW_ := hide (ext HW.out hbB)
      clear HK HK2 HK3 HW
      have HK := HK_
      have HK2 := HK2_
      have HK3 := HK3_
      have HW := HW_
      clear HK_ HK2_ HK3_ HW_
      clear hbB
      generalize W.drewN nq = WN at HK HK2 HK3 HW ⊢
      clear nq
      have r0 := HK.out.cell 0
      have r1 := HK.out.cell 1
      have r2 := HK.out.cell 2
      have r3 := HK.out.cell 3
      have rL := HK.out.lt
      have s0 := HK2.out.cell 0
      have sL := HK2.out.lt
      have t0 := HK3.out.cell 0
      have tL := HK3.out.lt
      simp at r0 r1 r2 r3 s0 t0
      go_wp2_with fail
      go_ret
      exact ⟨ret_i64' HF.out, HW.out⟩
  · have HE2 := hide (HE.out.trans (if_neg hin))
    have hin2 : 0 ≤ l[i].node ∧ l[i].node < (k0 : Int) := by
      rw [Bool.and_eq_false_iff, decide_eq_false_iff_not, decide_eq_false_iff_not] at hin
      omega
    obtain ⟨h1, h2⟩ := hin2
    have hd : decide (l[i].node < 0) = false := decide_eq_false (by omega)
    clear hin HE p1
    have HD := hide (And.intro h1 h2)
    obtain ⟨x, HX⟩ : ∃ x, Hid (l[i].node = x) := ⟨_, hide rfl⟩
    rw [HX.out] at p0 h1 h2 hd
    go_quiet (fail)
    have hbB := ext_drewN W nq
    try clear r0 r1 r2 r3 rL s0 sL t0 tL
    have HK_ := hide (HK.out.below hbB HK.out.lt)
    have HK2_ := hide (HK2.out.below hbB HK2.out.lt)
    have HK3_ := hide (HK3.out.below hbB HK3.out.lt)
    have HW_ := hide (ext HW.out hbB)
    clear HK HK2 HK3 HW
    have HK := HK_
    have HK2 := HK2_
    have HK3 := HK3_
    have HW := HW_
    clear HK_ HK2_ HK3_ HW_
    clear hbB
    generalize W.drewN nq = WN at HK HK2 HK3 HW ⊢
    clear nq
    have r0 := HK.out.cell 0
    have r1 := HK.out.cell 1
    have r2 := HK.out.cell 2
    have r3 := HK.out.cell 3
    have rL := HK.out.lt
    have s0 := HK2.out.cell 0
    have sL := HK2.out.lt
    have t0 := HK3.out.cell 0
    have tL := HK3.out.lt
    simp at r0 r1 r2 r3 s0 t0
    have hf := fun w' (h : Below WN.heap.size WN w') => any_levels2 (some ad) i c (l.take i) 167 (.pointer (some ⟨w.heap.size + 1, 0, none⟩)) (.pointer (some ⟨w.heap.size + 2, 0, none⟩)) (fun k => ((l.take i).getD k default).node == l[i].node) w' (LevelsIs.take (HL.out.below (ext HW.out h)) (by omega)) (enters Tryz.func167 (by rfl) (by rfl)) (fun k hk w2 hw2 => by
      have hh := ext h hw2
      have h3 := same_level (l.take i)[k] l i (some ad) l.length c (w.heap.size + 1) (w.heap.size + 2) w2 ((hh.cell (p := ⟨w.heap.size + 1, 0, none⟩) sL).trans s0) (Nat.lt_of_lt_of_le sL hh.size) ((hh.cell (p := ⟨w.heap.size + 2, 0, none⟩) tL).trans t0) (Nat.lt_of_lt_of_le tL hh.size) (HL.out.below (ext HW.out hh)) hi
      rw [show (l.take i).getD k default = (l.take i)[k] by simp [List.getD, List.getElem?_eq_getElem hk]]
      exact h3)
    rw [twice_level (Nat.le_of_lt hi)] at hf
    go_wp2_with fail
    refine (hf _ (ext_refl WN)).mono ?_
    rintro e WN ⟨rfl, hbB⟩
    try clear r0 r1 r2 r3 rL s0 sL t0 tL
    have HK_ := hide (HK.out.below hbB HK.out.lt)
    have HK2_ := hide (HK2.out.below hbB HK2.out.lt)
    have HK3_ := hide (HK3.out.below hbB HK3.out.lt)
    have HW_ := hide (ext HW.out hbB)
    clear HK HK2 HK3 HW
    have HK := HK_
    have HK2 := HK2_
    have HK3 := HK3_
    have HW := HW_
    clear HK_ HK2_ HK3_ HW_
    clear hbB
    have r0 := HK.out.cell 0
    have r1 := HK.out.cell 1
    have r2 := HK.out.cell 2
    have r3 := HK.out.cell 3
    have rL := HK.out.lt
    have s0 := HK2.out.cell 0
    have sL := HK2.out.lt
    have t0 := HK3.out.cell 0
    have tL := HK3.out.lt
    simp at r0 r1 r2 r3 s0 t0
    clear hf
    by_cases hmem : l[i].node ∈ (l.take i).map (·.node)
    · have HF := hide (HE2.out.trans (if_pos hmem))
      rw [decide_eq_true hmem]
      clear hmem HE2
      go_wp2_with fail
      go_ret
      exact ⟨ret_i64' HF.out, HW.out⟩
    · have HF := hide (HE2.out.trans (if_neg hmem))
      rw [decide_eq_false hmem]
      clear hmem HE2
      obtain ⟨ad2, e1, hb2, q0, q1⟩ := (HL.out.below HW.out).at_ hi
      injection e1 with e1
      subst e1
      have hnu := fun w => water_number ⟨l[i].value.toArray⟩ w (by have := HSM.out; rw [← bts_length, bts_mk]; exact this)
      rw [bts_mk] at hnu
      clear q0 HQ
      go_wp2_with fail
      refine (hnu _).mono ?_
      rintro e WN ⟨rfl, hbB⟩
      try clear r0 r1 r2 r3 rL s0 sL t0 tL
      have HK_ := hide (HK.out.below hbB HK.out.lt)
      have HK2_ := hide (HK2.out.below hbB HK2.out.lt)
      have HK3_ := hide (HK3.out.below hbB HK3.out.lt)
      have HW_ := hide (ext HW.out hbB)
      clear HK HK2 HK3 HW
      have HK := HK_
      have HK2 := HK2_
      have HK3 := HK3_
      have HW := HW_
      clear HK_ HK2_ HK3_ HW_
      clear hbB
      have r0 := HK.out.cell 0
      have r1 := HK.out.cell 1
      have r2 := HK.out.cell 2
      have r3 := HK.out.cell 3
      have rL := HK.out.lt
      have s0 := HK2.out.cell 0
      have sL := HK2.out.lt
      have t0 := HK3.out.cell 0
      have tL := HK3.out.lt
      simp at r0 r1 r2 r3 s0 t0
      go_wp2_with fail
      go_ret
      exact ⟨ret_i64' HF.out, HW.out⟩
end Go.Proofs.YtdecgcdkaaiglaaGreat
