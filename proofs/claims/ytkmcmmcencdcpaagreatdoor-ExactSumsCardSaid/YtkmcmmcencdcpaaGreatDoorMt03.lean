/- Parts of the proof: memory, numbers, walks of the functions that are called. -/
import Derived.BigQuiet
import Derived.Deep.QuietTactic
import Derived.WalkLawsBesides
import Derived.WalkSpells
import Derived.Test.YtkmcmmcencdcpaaGreatDoorRows
import Derived.Test.YtkmcmmcencdcpaaGreatDoorMt02
set_option linter.unusedVariables false
set_option linter.unusedSimpArgs false
namespace Go.Proofs.YtkmcmmcencdcpaaGreatDoor
open Go.RowKit
def zkj (w:World) (A:Option Addr) (c:Nat) (ds:List Nat) (e:Ending) (w' :World):Prop:=
 ∃ k,k<=ds.length/\e= .returned (.slice A k c)/\yJ 4294967296 (ds.take k)/\val 4294967296 (ds.take k)=val 4294967296 ds/\w=w'
theorem zfc {k:Nat} {ds:List Nat} (hs:zD 4294967296 ds) (hk:k<=ds.length) (hlast:∀ h:0<k,ds[k - 1]≠0):yJ 4294967296 (ds.take k):=by
 have hlen:(ds.take k).length=k:=by rw [List.length_take];omega
 refine yJ.mk_ (hs.take k) ?_
 intro h
 rw [List.getElem_take]
 have:=hlast (by omega)
 simp only [hlen]
 exact this
theorem ze9 (A:Option Addr) (c:Nat) (ds:List Nat) (w:World) (B:Nat) (hr:zY w B 1 A ds.length (YE ds)) (hs:zD 4294967296 ds) (hl:ds.length<=c) (hc:c<=maxLen):
 Calls Tryz.prog 174 #[.slice A ds.length c] w (zkj w A c ds):=by
 have HC:=ze hc
 unfold maxLen at hc
 go_enter Tryz.func174,Tryz.ntmps174
 go_wp2
 go_loop [0] (fun v=>∃ k:Nat,k<=ds.length/\v= .slice A k c/\Hid (val 4294967296 (ds.take k)=val 4294967296 ds)) (fun v=>match v with | .slice _ n _=>n | _=>0)
 case atStart=>exact ⟨ds.length,Nat.le_refl _,rfl,by rw [List.take_length];exact rfl⟩
 case round=>
  obtain ⟨k,hk,rfl,HV⟩:=hrel
  by_cases hk0:0<k
  . obtain ⟨ad,u,rfl,hb,hx,hcell⟩:=hr.at_ (k:=k - 1) (by omega)
    rw [yQ (by omega)] at hx;injection hx with hx
    subst hx
    by_cases h0:ds[k - 1]=0
    . have g0:((ds[k - 1]:Int) == 0)=true:=by rw [h0];rfl
      go_wp2;go_round
      case rel=>
       refine ⟨k - 1,by omega,rfl,?_⟩;exact zj4 (by omega) (by rw [show k - 1+1=k by omega];exact HV.out) h0
      case measure=>simp;omega
    . have g0:((ds[k - 1]:Int) == 0)=false:=by rw [beq_eq_false_iff_ne];omega
      go_wp2;go_ret;exact ⟨k,hk,rfl,zfc hs hk (fun _=>h0),HV.out,rfl⟩
  . obtain rfl:k=0:=by omega
    go_wp2;go_ret;exact ⟨0,hk,rfl,zfc hs hk (fun h=>absurd h (by omega)),HV.out,rfl⟩
theorem zg9 (A:Option Addr) (c:Nat) (ds:List Nat) (w:World) (B:Nat) (hr:zY w B 1 A ds.length (YE ds)) (hs:zD 4294967296 ds) (hl:ds.length<=c) (hc:c<=maxLen):
 Calls Tryz.prog 174 #[.slice A ds.length c] w (zo3 w B (val 4294967296 ds)):=by
 refine (ze9 A c ds w B hr hs hl hc).mono ?_
 rintro e w' ⟨k,hk,rfl,hcan,hv,rfl⟩
 have hlen:(ds.take k).length=k:=by rw [List.length_take];omega
 refine ⟨_,rfl,⟨A,c,ds.take k,by rw [hlen],by omega,hc,?_,hcan,hv⟩,rfl⟩
 have:=hr.head (k:=k) hk
 rw [hlen, <- zan]
 simpa using this
theorem Zr (A:Option Addr) (n c:Nat) (ds:List Nat) (w:World) (B:Nat) (hr:zY w B 1 A n (YE ds)) (hs:zD 4294967296 ds) (hl:n<=c) (hc:c<=maxLen):
 Calls Tryz.prog 174 #[.slice A n c] w (zo3 w B (val 4294967296 ds)):=by
 have hn:ds.length=n:=by have:=hr.1;rw [vm] at this;omega
 subst hn
 exact zg9 A c ds w B hr hs hl hc
theorem zb7 (A:Option Addr) (n c:Nat) (ds:List Nat) (w:World) (B:Nat) (hr:zY w B 1 A n (YE ds)) (hs:zD 4294967296 ds) (hl:n<=c) (hc:c<=maxLen):
 Calls Tryz.prog 174 #[.slice A n c] w (zkj w A c ds):=by
 have hn:ds.length=n:=by have:=hr.1;rw [vm] at this;omega
 subst hn
 exact ze9 A c ds w B hr hs hl hc
end Go.Proofs.YtkmcmmcencdcpaaGreatDoor
