/- Parts of the proof. -/
import Derived.Deep.OwnRows
import Derived.Test.YtobdoblpnanclaaGreatDoorMo02
set_option linter.all false
namespace Go.Proofs.YtobdoblpnanclaaGreatDoor
open Proofs.Tryz Go.RowKit Go.Deep
theorem znf:(prog.info? 158).map (fun i=>(i.zero,i.size,i.bytes))=some (some (.int .u32 0),1,4):=by kernel_rfl
theorem zcg (k:IntKind) (n:Nat) (hn:n<=1073741824) (w:World):
 (Instr.makeSlice 56 (.int k (n:Int)) (.int k (n:Int))).run prog w= .ok (.slice (some ⟨w.heap.size,0,none⟩) n n) (w.alloc (.cells (ym (List.replicate n 0)) 158)):=by
 rw [run_make_row' 56 158 (.int .u32 0) 4 underlying56 znf rfl k k n (by omega) (by omega) w,zhv]
def zvt (da db:List Nat) (w:World) (cv iv:Value) (wr:World):Prop:=
 ∃ (k c:Nat) (O:List Nat),k<=da.length/\iv= .int .i64 k/\cv= .int .u64 c/\c<=1/\O.length=da.length+1/\zP 4294967296 O/\
  Hid (val 4294967296 (O.take k)+c*4294967296 ^ k=val 4294967296 (da.take k)+val 4294967296 (db.take k))/\Blk wr w.heap.size 158 (ym O)/\Below w.heap.size w wr
theorem xN (O:List Nat) (k d:Nat) (hk:k<O.length):(O.set k d).take (k+1)=O.take k ++ [d]:=by
 rw [zcp _ _ (by simpa using hk),List.take_set_of_le (uA),List.getElem_set_self]
theorem zvt.step {da db:List Nat} {w wr:World} {k c:Nat} {O:List Nat} (hk:k<da.length) (hc:c<=1) (hO:O.length=da.length+1) (hsO:zP 4294967296 O)
 (HV:Hid (val 4294967296 (O.take k)+c*4294967296 ^ k=val 4294967296 (da.take k)+val 4294967296 (db.take k))) (hblk:Blk wr w.heap.size 158 (ym O)) (hbl:Below w.heap.size w wr)
 (hsa:zP 4294967296 da) (hsb:zP 4294967296 db) (t:Nat) (ht:t=c+da.getD k 0+db.getD k 0) (cv iv sv:Value) (hcv:cv= .int .u64 ((t / 4294967296:Nat):Int)) (hiv:iv= .int .i64 ((k+1:Nat):Int)) (hsv:sv= .int .u32 ((t % 4294967296:Nat):Int)):
 zvt da db w cv iv (wr.setCell ⟨w.heap.size,k,none⟩ sv):=by
 subst hcv hiv hsv ht
 have e:=hsa.getD (by omega) k
 have b:=hsb.getD (by omega) k
 refine ⟨k+1,_,O.set k ((c+da.getD k 0+db.getD k 0) % 4294967296),by omega,rfl,rfl,by omega,by simpa using hO,hsO.set _ _ (Nat.mod_lt _ (by omega)),?_,?_,hbl.setCell (uA) _⟩
 . rw [xN _ _ _ (by omega),YE,List.length_take,Nat.min_eq_left (by omega),zM,zM]
   exact zkh HV.o
 have:=hblk.set_ k (.int .u32 (((c+da.getD k 0+db.getD k 0) % 4294967296:Nat):Int))
 rwa [yE] at this
theorem zeg (A:Option Addr) (ca:Nat) (b:List Nat) (B:Option Addr) (cb:Nat) (db:List Nat) (w:World) (args:Array Value)
 (hra:ys w w.heap.size 1 A b.length (Xc b)) (hsa:zP 4294967296 b) (hrb:ys w w.heap.size 1 B db.length (Xc db)) (hsb:zP 4294967296 db)
 (hle:db.length<=b.length) (hla:b.length<=67108864)
 (hargs:args=#[.slice A b.length ca,.slice B db.length cb]\/(db.length<b.length/\args=#[.slice B db.length cb,.slice A b.length ca])):
 Calls prog 95 args w (Vo w (val 4294967296 b+val 4294967296 db)):=by
 have T:=fun w=>zcg .i64 (b.length+1) (by omega) w
 rw [show ((b.length+1:Nat):Int)=(b.length:Int)+1 by omega] at T
 rcases hargs with rfl | ⟨m,rfl⟩
 all_goals
  go_in
  go_wp2
  go_loopw [6,21] (zvt b db w) (fun _ iv _=>b.length - (intOf iv).toNat)
  case atStart=>
   exact ⟨0,0,List.replicate (b.length+1) 0,by omega,rfl,rfl,by omega,by simp,zP.replicate (by omega) _,by simp [Hid,val],Blk.new _ _ _,(Below.refl _ _).alloc (uA) _⟩
  case round=>
   obtain ⟨k,c,O,hk,rfl,rfl,K,C,F,E,r,y⟩:=hrel;have Z:=r.lt;have aa:=(r.cell k).trans (xa (by omega));have X:=r.frozen k
   by_cases m:k<b.length
   rotate_left
   . obtain rfl:k=b.length:=by omega
     have J:=r.set_ b.length (.int .u32 (c:Int));rw [yE] at J;have I:=xV J;rw [show (O.set b.length c).length=b.length+1 by simpa using C] at I
     have G:val 4294967296 (O.set b.length c)=val 4294967296 b+val 4294967296 db:=by
      have:=E.o;rw [List.take_length,uJ hle] at this;rw [<- this, <- List.take_length (l:=O.set b.length c),show (O.set b.length c).length=b.length+1 by simpa using C,xN _ _ _ (by omega),YE,List.length_take,Nat.min_eq_left (by omega),uH c]
     have R:=F.set b.length c (by omega);have L:=ze G;clear G E;go_wp2_with (go_at_call 96;refine (Zv _ _ _ _ _ _ I R (uA) (by unfold maxLen;omega)).mono ?_;rintro e w' ⟨v,rfl,S,rfl⟩);go_ret;refine ⟨v,rfl,?_,y.setCell (uA) _⟩;rw [<- L.o];exact S
   obtain ⟨U,u,rfl,N,j,z⟩:=hra.at_ m
   rw [yJ m] at j;injection j with j
   subst j;have ac:=(y.cell (p:=U.add k) (by rw [zU];exact N)).trans z;clear z;have ab:b[k]<4294967296:=hsa.get k m
   by_cases D:k<db.length
   rotate_left
   . go_wp2
     go_roundw
     case rel=>exact zvt.step m K C F E r y hsa hsb (c+b[k]) (by rw [zC m,Xn (by omega)];rfl) _ _ _ (by go_num) (by go_num) (by go_num)
     case measure=>simp [intOf];omega
   obtain ⟨M,u,rfl,Q,j,z⟩:=hrb.at_ D
   rw [yJ D] at j;injection j with j
   subst j;have V:=(y.cell (p:=M.add k) (by rw [zU];exact Q)).trans z;clear z;have Y:db[k]<4294967296:=hsb.get k D;go_wp2;go_roundw
   case rel=>exact zvt.step m K C F E r y hsa hsb (c+b[k]+db[k]) (by rw [zC m,zC D]) _ _ _ (by go_num) (by go_num) (by go_num)
   case measure=>simp [intOf];omega
theorem zcb (va vb:Value) (a b:Nat) (w:World) (ha:yt w va a) (hb:yt w vb b) (hla:len 4294967296 a<=67108864) (hlb:len 4294967296 b<=67108864):
 Calls prog 95 #[va,vb] w (Vo w (a+b)):=by
 obtain ⟨A,z,e,rfl,F,E,y,j,rfl⟩:=ha
 obtain ⟨B,r,l,rfl,C,D,u,m,rfl⟩:=hb
 rw [<- j.length_eq (by omega)] at hla
 rw [<- m.length_eq (by omega)] at hlb
 rcases uL e.length l.length with h | h
 . rw [Nat.add_comm]
   exact zeg B r l A z e w _ u m.1 y j.1 (by omega) hlb (.inr ⟨h,rfl⟩)
 . exact zeg A z e B r l w _ y j.1 u m.1 h hla (.inl rfl)
end Go.Proofs.YtobdoblpnanclaaGreatDoor
