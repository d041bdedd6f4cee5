/- Parts of the proof: memory, numbers, walks of the functions that are called. -/
import Derived.Test.YtacfcmdlgebhgaaGreatMg18
set_option linter.unusedVariables false
set_option linter.unusedSimpArgs false
namespace Go.Proofs.YtacfcmdlgebhgaaGreat
def txt (A:Tab):Nat->Nat->List UInt8:=fun i c=>zh (A i c)
theorem yO {q:Rat}:zh q=[48]↔q=0:=by
 have h0:zh 0=[48]:=by unfold zh;simp [vD]
 constructor
 . intro h;exact vZ (h.trans h0.symm)
 intro h;rw [h,h0]
def Vc (m:Nat) (A0:Tab) (E k:Nat) (A:Tab):Prop:=zah m A0 k A (10 ^ (E*2 ^ k))/\∀ i c,m<c->A i c=0
theorem Vc.swapped {m E k p:Nat} {A0 A:Tab} (h:Vc m A0 E k A) (hk:k<=p) (hp:p<m):Vc m A0 E k (swapped A k p):=by
 refine ⟨h.1.swapped hk hp,fun i c hc=>?_⟩
 unfold Go.Proofs.YtacfcmdlgebhgaaGreat.swapped
 split
 . exact h.2 _ _ hc
 split
 . exact h.2 _ _ hc
 exact h.2 _ _ hc
theorem Vc.freed {m E k:Nat} {A0 A:Tab} (h:Vc m A0 E k A) (hk:k<m) (h0:A k k≠0):Vc m A0 E (k+1) (freed A k m):=by
 refine ⟨?_,fun i c hc=>?_⟩
 . have:=h.1.freed hk h0
   rw [<- Nat.pow_add] at this;rw [show E*2 ^ (k+1)=E*2 ^ k+E*2 ^ k by rw [Nat.pow_succ, <- Nat.mul_assoc];omega];exact this
 unfold Go.Proofs.YtacfcmdlgebhgaaGreat.freed
 split
 . rw [h.2 _ _ hc,h.2 _ _ hc];grind
 exact h.2 _ _ hc
def zio (A:Tab) (k i c:Nat):Tab:=fun i' c' =>if i' =i/\k<=c' /\c' <c then A i c' - A i k / A k k*A k c' else freed A k i i' c'
theorem zg4 (A:Tab) (k i:Nat):zio A k i k=freed A k i:=by
 funext i' c'
 unfold zio
 rw [if_neg (by omega)]
theorem zm7 {A:Tab} {k i c c' :Nat} (hc:c<=c'):zio A k i c i c' =A i c' :=by
 unfold zio
 rw [if_neg (by omega)]
 unfold freed
 rw [if_neg (by omega)]
theorem zv2 {A:Tab} {k i c c' :Nat} (hi:i≠k):zio A k i c k c' =A k c' :=by
 unfold zio
 rw [if_neg (by omega)]
 unfold freed
 rw [if_neg (by omega)]
theorem zmy {A:Tab} {k i c:Nat} (hc:k<=c):(fun i' c' =>if i' =i/\c' =c then A i c - A i k / A k k*A k c else zio A k i c i' c')=zio A k i (c+1):=by
 funext i' c'
 unfold zio
 by_cases h1:i' =i/\c' =c
 . rw [if_pos h1,if_pos (by omega),h1.2]
 rw [if_neg h1]
 by_cases h2:i' =i/\k<=c' /\c' <c
 . rw [if_pos h2,if_pos (by omega)]
 rw [if_neg h2,if_neg (by omega)]
theorem ziz {m E k i:Nat} {A0 A:Tab} (h:Vc m A0 E k A) (hk:k<m) (hi:i≠k):zio A k i (m+1)=freed A k (i+1):=by
 funext i' c'
 unfold zio freed
 by_cases h1:i' =i
 rotate_left
 . rw [if_neg (fun h3=>h1 h3.1)]
   by_cases h3:i' <i/\i' ≠k
   . rw [if_pos h3,if_pos (by omega)]
   rw [if_neg h3,if_neg (by omega)]
 subst h1
 by_cases h2:k<=c' /\c' <m+1
 . rw [if_pos ⟨rfl,h2⟩,if_pos ⟨by omega,hi⟩]
 rw [if_neg (fun h3=>h2 h3.2),if_neg (by omega),if_pos ⟨by omega,hi⟩]
 have h0:A k c' =0:=by
  rcases Nat.lt_or_ge c' k with h4 | h4
  . exact (h.1.2.1 c' h4).2 k hk (by omega)
  . exact h.2 _ _ (by omega)
 rw [h0];grind
theorem V0 {A:Tab} {k i:Nat} (h:i=k\/A i k=0):freed A k (i+1)=freed A k i:=by
 funext i' c'
 unfold freed
 by_cases h1:i' =i
 rotate_left
 . by_cases h3:i' <i/\i' ≠k
   . rw [if_pos h3,if_pos (by omega)]
   rw [if_neg h3,if_neg (by omega)]
 subst h1
 rw [if_neg (by omega:¬ (i' <i' /\i' ≠k))]
 by_cases h2:i' =k
 . rw [if_neg (by omega)]
 rw [if_pos (by omega)]
 rcases h with h | h
 . exact absurd h h2
 . rw [h];grind
theorem zf8 (A:Tab) (k:Nat):freed A k 0=A:=by
 funext i' c'
 unfold freed
 rw [if_neg (by omega)]
theorem zfq {A:Tab} {k i:Nat}:freed A k i i=A i:=Y5 i (by omega)
theorem zgd {A:Tab} {k i:Nat}:freed A k i k=A k:=Y5 k (by omega)
theorem zhp (E k:Nat):10 ^ (E*2 ^ k)*10 ^ (E*2 ^ k)=10 ^ (E*2 ^ (k+1)):=by
 rw [<- Nat.pow_add]
 congr 1
 rw [Nat.pow_succ, <- Nat.mul_assoc];omega
theorem zgw {E k m B:Nat} (hk:k<=m) (h:E*2 ^ m<=B):E*2 ^ k<=B:=Nat.le_trans (Nat.mul_le_mul (Nat.le_refl _) (Nat.pow_le_pow_right (by omega) hk)) h
theorem Vc.short {m E k:Nat} {A0 A:Tab} (h:Vc m A0 E k A) (hk:k<=m) (hE:E*2 ^ m<=49999) {i c:Nat} (hi:i<m) (hc:c<=m):zG 50000 (A i c):=
 Dz.short (h.1.2.2.1.sz hi hc) (by have:=zgw hk hE;omega)
theorem Vc.quot {m E k:Nat} {A0 A:Tab} (h:Vc m A0 E k A) (hk:k<m) (hE:E*2 ^ m<=49999) {i c:Nat} (hi:i<m) (hc:c<=m) (h0:A k k≠0):zG 50000 (A i c / A k k):=by
 have h1:=h.1.2.2.1.quot hi hk hc h0
 rw [zhp] at h1
 exact Dz.short h1 (by have:=zgw (show k+1<=m by omega) hE;omega)
theorem Vc.prod {m E k:Nat} {A0 A:Tab} (h:Vc m A0 E k A) (hk:k<m) (hE:E*2 ^ m<=49999) {i c:Nat} (hi:i<m) (hc:c<=m) (h0:A k k≠0):zG 50000 (A i k / A k k*A k c):=by
 have h1:=h.1.2.2.1.prod hi hk hc h0
 rw [zhp] at h1
 exact Dz.short h1 (by have:=zgw (show k+1<=m by omega) hE;omega)
theorem Vc.diff {m E k:Nat} {A0 A:Tab} (h:Vc m A0 E k A) (hk:k<m) (hE:E*2 ^ m<=49999) {i c:Nat} (hi:i<m) (hik:i≠k) (hc:c<=m) (h0:A k k≠0):zG 50000 (A i c - A i k / A k k*A k c):=by
 have h1:=(h.freed hk h0).short (by omega) hE hi hc
 unfold Go.Proofs.YtacfcmdlgebhgaaGreat.freed at h1
 rw [if_pos ⟨hi,hik⟩] at h1
 exact h1
theorem Vc.answer {m E:Nat} {A0 A:Tab} (h:Vc m A0 E m A) (hE:E*2 ^ m<=49999) {i:Nat} (hi:i<m):zG 50000 (A i m / A i i):=by
 obtain ⟨t,h1,h2,h3⟩:=h.1.2.2.1.diag hi (h.1.2.1 i hi).1
 exact Dz.short (h3.sz h1 (Nat.le_refl _) h2) (by omega)
theorem Xg {f:Rat->Rat->Rat} {x y:Rat} (hx:zG 50000 x) (hy:zG 50000 y) (h:zG 50000 (f x y)):(op2 f (zh x) (zh y)).1=zh (f x y):=by
 rw [zes (yv hx) (yv hy)]
 unfold XS
 rw [if_pos h]
theorem zhs {x y:Rat} (hx:zG 50000 x) (hy:zG 50000 y) (h0:y≠0) (h:zG 50000 (x / y)):(ztp (zh x) (zh y)).1=zh (x / y):=by
 unfold ztp
 rw [yv hx,yv hy]
 simp only
 rw [if_neg h0]
 unfold XS
 rw [if_pos h]
end Go.Proofs.YtacfcmdlgebhgaaGreat
