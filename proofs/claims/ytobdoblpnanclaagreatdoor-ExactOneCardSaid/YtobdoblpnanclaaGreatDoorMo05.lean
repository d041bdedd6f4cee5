/- Parts of the proof. -/
import Derived.Laws.BitsAllLaws
import Derived.Laws.MathBits
import Derived.Test.YtobdoblpnanclaaGreatDoorMo02
import Derived.Test.YtobdoblpnanclaaGreatDoorMo04
set_option linter.all false
namespace Go.Proofs.YtobdoblpnanclaaGreatDoor
open Proofs.Tryz Go.RowKit
def zop (w:World) (x y b:Nat) (e:Ending) (w' :World):Prop:=
 ∃ s b' :Nat,s<4294967296/\b' <=1/\s+y+b=x+b' *4294967296/\e= .returned (.tuple #[.int .u32 s,.int .u32 b'])/\w=w'
theorem zpw (x y b:Nat) (hx:x<4294967296) (hy:y<4294967296) (hb:b<=1):
 let d:=(x+4294967296+4294967296 - y - b) % 4294967296
 (((x ^^^ 4294967295) &&& y) ||| ((4294967295 ^^^ (x ^^^ y)) &&& d)) / 2147483648=if x<y+b then 1 else 0:=by
 intro d
 have hd:d<4294967296:=Nat.mod_lt _ (by omega)
 have e:∀ z:Nat,z<4294967296->z.testBit 31=decide (2147483648<=z):=by
  intro z j
  rw [Nat.testBit_eq_decide_div_mod_eq]
  by_cases h:2147483648<=z
  . rw [uE h,decide_eq_true_iff];omega
  rw [uF h,decide_eq_false_iff_not];omega
 have lt:∀ z:Nat,z<4294967296->z / 2147483648=if z.testBit 31 then 1 else 0:=by
  intro z j
  rw [e z j]
  by_cases h:2147483648<=z
  . rw [uE h,if_pos rfl];omega
  rw [uF h,if_neg (by simp)];omega
 have l:((x ^^^ 4294967295) &&& y) ||| ((4294967295 ^^^ (x ^^^ y)) &&& d)<4294967296:=by
  have:(2:Nat) ^ 32=4294967296:=by decide
  rw [<- this] at hy hd |-
  exact Nat.or_lt_two_pow (Nat.and_lt_two_pow _ hy) (Nat.and_lt_two_pow _ hd)
 rw [lt _ l,Nat.testBit_or,Nat.testBit_and,Nat.testBit_and,Nat.testBit_xor,Nat.testBit_xor,Nat.testBit_xor,e x hx,e y hy,e d hd,e 4294967295 (by omega)]
 have B:d=(x+4294967296+4294967296 - y - b) % 4294967296:=rfl
 clear_value d
 by_cases r:2147483648<=x<;>by_cases m:2147483648<=y<;>by_cases u:2147483648<=d<;>simp [r,m,u]<;>omega
theorem zdq (x y b:Nat) (hx:x<4294967296) (hy:y<4294967296) (hb:b<=1) (w:World):
 Calls prog 123 #[.int .u32 x,.int .u32 y,.int .u32 b] w (zop w x y b):=by
 have D:¬ IntKind.u32.signed=true:=by decide
 go_in
 go_wp2
 go_ret2
 have C:((x:Int) - y - b) % 4294967296=(((x+4294967296+4294967296 - y - b) % 4294967296:Nat):Int):=by omega
 have hd:(x+4294967296+4294967296 - y - b) % 4294967296<4294967296:=Nat.mod_lt _ (by omega)
 have m:IntKind.u32.max=((4294967295:Nat):Int):=by decide
 have e:(2:Nat) ^ 32=4294967296:=by decide
 have r:x ^^^ 4294967295<4294967296:=by rw [<- e] at hx |-;exact Nat.xor_lt_two_pow hx (by decide)
 have j:x ^^^ y<4294967296:=by rw [<- e] at hx hy |-;exact Nat.xor_lt_two_pow hx hy
 have B:4294967295 ^^^ (x ^^^ y)<4294967296:=by rw [<- e] at j |-;exact Nat.xor_lt_two_pow (by decide) j
 have z:(x ^^^ 4294967295) &&& y<4294967296:=by rw [<- e] at hy |-;exact Nat.and_lt_two_pow _ hy
 have u:(4294967295 ^^^ (x ^^^ y)) &&& ((x+4294967296+4294967296 - y - b) % 4294967296)<4294967296:=by rw [<- e] at hd |-;exact Nat.and_lt_two_pow _ hd
 have l:=zpw x y b hx hy hb
 simp only at l
 refine ⟨(x+4294967296+4294967296 - y - b) % 4294967296,if x<y+b then 1 else 0,hd,by split<;>omega,?_,?_,rfl⟩
 . by_cases h:x<y+b
   . rw [if_pos h];omega
   rw [if_neg h];omega
 . show Ending.returned (.tuple #[.int .u32 ((((x:Int) - y) % 4294967296 - b) % 4294967296),.int .u32 (bits BinOp.or IntKind.u32 (bits BinOp.and IntKind.u32 (bits BinOp.xor IntKind.u32 IntKind.u32.max x) y)
    (bits BinOp.and IntKind.u32 (bits BinOp.xor IntKind.u32 IntKind.u32.max (bits BinOp.xor IntKind.u32 x y)) (((x:Int) - y - b) % 4294967296)) / 2147483648)])=_
   rw [show (((x:Int) - y) % 4294967296 - b) % 4294967296=((x:Int) - y - b) % 4294967296 by omega,C,m,u32_xor_nat _ _ (by omega) hx,u32_xor_nat _ _ hx hy,u32_and_nat _ _ (by rw [Nat.xor_comm];exact r) hy,u32_xor_nat _ _ (by omega) j,u32_and_nat _ _ B hd,u32_or_nat _ _ (by rw [Nat.xor_comm];exact z) u, <- l,Nat.xor_comm 4294967295 x]
   rfl
theorem zny (x y b:Int) (hx0:0<=x) (hx:x<4294967296) (hy0:0<=y) (hy:y<4294967296) (hb0:0<=b) (hb:b<=1) (w:World):
 Calls prog 123 #[.int .u32 x,.int .u32 y,.int .u32 b] w (zop w x.toNat y.toNat b.toNat):=by
 obtain ⟨x,rfl⟩:=Int.eq_ofNat_of_zero_le hx0
 obtain ⟨y,rfl⟩:=Int.eq_ofNat_of_zero_le hy0
 obtain ⟨b,rfl⟩:=Int.eq_ofNat_of_zero_le hb0
 simp only [Int.toNat_natCast]
 exact zdq x y b (by omega) (by omega) (by omega) w
theorem zur (x b:Nat) (hx:x<4294967296) (hb:b<=1) (w:World):Calls prog 123 #[.int .u32 x,.int .u32 0,.int .u32 b] w (zop w x 0 b):=by
 have:=zdq x 0 b hx (by omega) hb w
 rwa [Int.natCast_zero] at this
theorem zpa (x y b:Nat) (hx:x<4294967296) (hy:y<4294967296) (hb:b<=1) (w:World):
 Calls prog 153 #[.int .u32 x,.int .u32 y,.int .u32 b] w (Ret2 w (.int .u32 (((x+y+b) % 4294967296:Nat):Int)) (.int .u32 (((x+y+b) / 4294967296:Nat):Int))):=by
 go_in
 go_wp2
 go_ret2
 exact ⟨rfl,rfl⟩
theorem zge (x y:Nat) (hx:x<18446744073709551616) (hy:y<18446744073709551616) (w:World):
 Calls prog 89 #[.int .u64 x,.int .u64 y] w (Ret2 w (.int .u64 ((x*y / 18446744073709551616:Nat):Int)) (.int .u64 ((x*y % 18446744073709551616:Nat):Int))):=by
 go_in
 go_wp2
 go_ret2
 have b :(x:Int)<18446744073709551616:=by omega
 have e :(y:Int)<18446744073709551616:=by omega
 have l:∀ n:Int,IntKind.u64.wrap n=n % 18446744073709551616:=fun n=>by simp [IntKind.wrap,IntKind.bits,IntKind.signed]
 have r:=mul64_arith (x:Int) y (by omega) b (by omega) e
 have j:=and_low32 (x:Int) (by omega) b
 have u:=and_low32 (y:Int) (by omega) e
 have m:=fun n:Int=>and_low32 (n % 18446744073709551616) (by omega) (by omega)
 refine ⟨?_,rfl⟩
 show Ending.returned (.tuple #[.int .u64 _,.int .u64 (IntKind.u64.wrap ((x:Int)*y))])=_
 simp only [l,j,u,m]
 rw [r]
 simp
theorem zmk (x:Int) (h0:0<=x) (h1:x<=4294967295) (w:World):
 Calls prog 132 #[.int .u32 x] w (zaw w (.int .i64 (32 - (Lib.bitLen x.toNat:Int)))):=by
 have l:Lib.bitLen x.toNat<=32:=Lib.bitLen_le x.toNat 32 (by omega) (by omega)
 go_in
 go_wp2_with (go_at_call 151;refine (zpk x h0 h1 _).mono ?_;rintro e w' ⟨rfl,rfl⟩)
 go_ret
 exact ⟨rfl,rfl⟩
def zZ (x y:Int):Int:=if x<y then -1 else if y<x then 1 else 0
theorem zkq (x y:Int) (w:World):Calls prog 121 #[.int .i64 x,.int .i64 y] w (zaw w (.int .i64 (zZ x y))):=by
 go_in
 go_wp2
 all_goals (go_ret;refine ⟨congrArg Ending.returned (congrArg (Value.int IntKind.i64) ?_),rfl⟩;unfold zZ)
 all_goals (split<;>(try split)<;>first | rfl | (exfalso;omega))
theorem zke (x y:Int) (w:World):Calls prog 122 #[.int .u32 x,.int .u32 y] w (zaw w (.int .i64 (zZ x y))):=by
 go_in
 go_wp2
 all_goals (go_ret;refine ⟨congrArg Ending.returned (congrArg (Value.int IntKind.i64) ?_),rfl⟩;unfold zZ)
 all_goals (split<;>(try split)<;>first | rfl | (exfalso;omega))
end Go.Proofs.YtobdoblpnanclaaGreatDoor
