/- Parts of the proof: memory, numbers, walks of the functions that are called. -/
import Derived.BigQuiet
import Derived.Deep.QuietTactic
import Derived.WalkLawsBesides
import Derived.WalkSpells
import Derived.Test.YtnpbflhjglkokaaGreatDoorRows
import Derived.Test.YtnpbflhjglkokaaGreatDoorMn02
set_option linter.unusedVariables false
set_option linter.unusedSimpArgs false
namespace Go.Proofs.YtnpbflhjglkokaaGreatDoor
open Go.RowKit
def zjy (w:World) (A:Option Addr) (c:Nat) (ds:List Nat) (e:Ending) (w' :World):Prop:=
 ∃ k,k<=ds.length/\e= .returned (.slice A k c)/\yv 4294967296 (ds.take k)/\val 4294967296 (ds.take k)=val 4294967296 ds/\w=w'
theorem zcc {k:Nat} {ds:List Nat} (hs:zy 4294967296 ds) (hk:k<=ds.length) (hlast:∀ h:0<k,ds[k - 1]≠0):yv 4294967296 (ds.take k):=by
 have hlen:(ds.take k).length=k:=by rw [List.length_take];omega
 refine yv.mk_ (hs.take k) ?_
 intro h
 rw [List.getElem_take]
 have:=hlast (by omega)
 simp only [hlen]
 exact this
theorem zcw (A:Option Addr) (c:Nat) (ds:List Nat) (w:World) (B:Nat) (hr:yb w B 1 A ds.length (Ym ds)) (hs:zy 4294967296 ds) (hl:ds.length<=c) (hc:c<=maxLen):
 Calls Tryz.prog 157 #[.slice A ds.length c] w (zjy w A c ds):=by
 have HC:=ze hc
 unfold maxLen at hc
 go_enter Tryz.func157,Tryz.ntmps157
 go_wp2
 go_loop [0] (fun v=>∃ k:Nat,k<=ds.length/\v= .slice A k c/\Hid (val 4294967296 (ds.take k)=val 4294967296 ds)) (fun v=>match v with | .slice _ n _=>n | _=>0)
 case atStart=>exact ⟨ds.length,Nat.le_refl _,rfl,by rw [List.take_length];exact rfl⟩
 case round=>
  obtain ⟨k,hk,rfl,HV⟩:=hrel
  by_cases hk0:0<k
  . obtain ⟨ad,u,rfl,hb,hx,hcell⟩:=hr.at_ (k:=k - 1) (by omega)
    rw [y6 (by omega)] at hx;injection hx with hx
    subst hx
    by_cases h0:ds[k - 1]=0
    . have g0:((ds[k - 1]:Int) == 0)=true:=by rw [h0];rfl
      go_wp2;go_round
      case rel=>
       refine ⟨k - 1,by omega,rfl,?_⟩;exact zjo (by omega) (by rw [show k - 1+1=k by omega];exact HV.out) h0
      case measure=>simp;omega
    . have g0:((ds[k - 1]:Int) == 0)=false:=by rw [beq_eq_false_iff_ne];omega
      go_wp2;go_ret;exact ⟨k,hk,rfl,zcc hs hk (fun _=>h0),HV.out,rfl⟩
  . obtain rfl:k=0:=by omega
    go_wp2;go_ret;exact ⟨0,hk,rfl,zcc hs hk (fun h=>absurd h (by omega)),HV.out,rfl⟩
theorem ze8 (A:Option Addr) (c:Nat) (ds:List Nat) (w:World) (B:Nat) (hr:yb w B 1 A ds.length (Ym ds)) (hs:zy 4294967296 ds) (hl:ds.length<=c) (hc:c<=maxLen):
 Calls Tryz.prog 157 #[.slice A ds.length c] w (zl3 w B (val 4294967296 ds)):=by
 refine (zcw A c ds w B hr hs hl hc).mono ?_
 rintro e w' ⟨k,hk,rfl,hcan,hv,rfl⟩
 have hlen:(ds.take k).length=k:=by rw [List.length_take];omega
 refine ⟨_,rfl,⟨A,c,ds.take k,by rw [hlen],by omega,hc,?_,hcan,hv⟩,rfl⟩
 have:=hr.head (k:=k) hk
 rw [hlen, <- VL]
 simpa using this
theorem vJ (A:Option Addr) (n c:Nat) (ds:List Nat) (w:World) (B:Nat) (hr:yb w B 1 A n (Ym ds)) (hs:zy 4294967296 ds) (hl:n<=c) (hc:c<=maxLen):
 Calls Tryz.prog 157 #[.slice A n c] w (zl3 w B (val 4294967296 ds)):=by
 have hn:ds.length=n:=by have:=hr.1;rw [x9] at this;omega
 subst hn
 exact ze8 A c ds w B hr hs hl hc
theorem za2 (A:Option Addr) (n c:Nat) (ds:List Nat) (w:World) (B:Nat) (hr:yb w B 1 A n (Ym ds)) (hs:zy 4294967296 ds) (hl:n<=c) (hc:c<=maxLen):
 Calls Tryz.prog 157 #[.slice A n c] w (zjy w A c ds):=by
 have hn:ds.length=n:=by have:=hr.1;rw [x9] at this;omega
 subst hn
 exact zcw A c ds w B hr hs hl hc
end Go.Proofs.YtnpbflhjglkokaaGreatDoor
