/- Parts of the proof: memory, numbers, walks of the functions that are called. -/
import Derived.Test.YtnpbflhjglkokaaGreatDoorMn17
import Derived.Test.YtnpbflhjglkokaaGreatDoorMn20
set_option linter.unusedVariables false
set_option linter.unusedSimpArgs false
namespace Go.Proofs.YtnpbflhjglkokaaGreatDoor
open Go.RowKit Go.Deep
theorem zd0 (x:UInt8) (l:List UInt8):zq (x :: l)=dig x*10 ^ l.length+zq l:=by
 have h:=vX [x] l
 have e:zq [x]=dig x:=by show 10*0+dig x=dig x;omega
 rw [e] at h
 exact h
theorem zke {x:UInt8} (h:yp x=true) (h0:dig x=0):x=48:=by
 obtain ⟨c1,c2⟩:=xY h
 unfold dig at h0
 apply UInt8.toNat_inj.1
 show x.toNat=48
 omega
theorem Vs:∀ (l:List UInt8),l.all yp=true->(zq l=0↔∀ x∈l,x=48)
 | [],_=>⟨fun _ x hx=>(by cases hx),fun _=>rfl⟩
 | x :: l,h=>by
   rw [List.all_cons,Bool.and_eq_true] at h;have ih:=Vs l h.2;have hp:0<10 ^ l.length:=Nat.pow_pos (by omega);rw [zd0]
   constructor
   . intro h0
     have h1:dig x=0:=by
      rcases Nat.eq_zero_or_pos (dig x) with h2 | h2
      . exact h2
      . have:=Nat.mul_le_mul h2 (Nat.le_of_lt_succ (Nat.lt_succ_of_le hp));omega
     have h2:zq l=0:=by omega
     intro y hy
     rcases List.mem_cons.1 hy with rfl | hy
     . exact zke h.1 h1
     . exact ih.1 h2 y hy
   . intro hall
     have h1:x=48:=hall x (List.mem_cons_self ..);have h2:zq l=0:=ih.2 (fun y hy=>hall y (List.mem_cons_of_mem _ hy));have h3:dig 48=0:=by decide
     rw [h1,h2,h3,Nat.zero_mul]
theorem zbb {p:UInt8->Bool}:∀ (l:List UInt8),l.dropWhile p=[]↔∀ x∈l,p x=true
 | []=>⟨fun _ x hx=>(by cases hx),fun _=>rfl⟩
 | y :: l=>by
   rw [List.dropWhile_cons]
   by_cases h:p y=true
   . rw [if_pos h,zbb l]
     exact ⟨fun h0 x hx=>by rcases List.mem_cons.1 hx with rfl | hx;exact h;exact h0 x hx,fun h0 x hx=>h0 x (List.mem_cons_of_mem _ hx)⟩
   . rw [if_neg h]
     exact ⟨fun h0=>(by cases h0),fun h0=>absurd (h0 y (List.mem_cons_self ..)) h⟩
theorem zis {l:List UInt8} (h:l.all yp=true):Lib.trimB l 48=[]↔zq l=0:=by
 rw [Vs l h]
 unfold Lib.trimB Lib.trimLeftB Lib.trimRightB
 constructor
 . intro h0 x hx
   have h1:∀ y∈(l.reverse.dropWhile (· == 48)).reverse,(y == 48)=true:=by
    intro y hy;exact (zbb _).1 h0 y hy
   have h2:l=(l.reverse.dropWhile (· == 48)).reverse ++ (l.reverse.takeWhile (· == 48)).reverse:=by
    rw [<- List.reverse_append,List.takeWhile_append_dropWhile,List.reverse_reverse]
   rw [h2] at hx
   rcases List.mem_append.1 hx with hx | hx
   . exact beq_iff_eq.1 (h1 x hx)
   . exact beq_iff_eq.1 (List.all_eq_true.1 List.all_takeWhile x (List.mem_reverse.1 hx))
 . intro hall
   have h1:l.reverse.dropWhile (· == 48)=[]:=(zbb _).2 (fun x hx=>by rw [hall x (List.mem_reverse.1 hx)];rfl);rw [h1];rfl
def zK (s:List UInt8):List UInt8×List UInt8×Bool:=
 if has 47 s then (ahead 47 s,zS 47 s,zR (ahead 47 s) && zR (zS 47 s))
 else if has 46 s then (ahead 46 s ++ zS 46 s,49 :: zs (zS 46 s).length,zR (ahead 46 s) && zR (zS 46 s))
 else (s,[49],zR s)
def zdv (l:List UInt8):List UInt8×Int:=
 if (zK (zk l)).2.2 then
  if zq (zK (zk l)).2.1=0 then ([],7)
  else (zM (yO (yf l) (zq (zK (zk l)).1) (zq (zK (zk l)).2.1)),0)
 else ([],4)
end Go.Proofs.YtnpbflhjglkokaaGreatDoor
