/- Parts of the proof. -/
import Derived.Deep.OwnRows
import Derived.Test.YthbmhkiphmcogaaGreatDoorMe01
set_option linter.all false
namespace Go.Proofs.YthbmhkiphmcogaaGreatDoor
open Proofs.Tryz Go.RowKit Go.Deep
theorem zom:(Tryz.prog.info? 184).map (fun i=>(i.zero,i.size,i.bytes))=some (some (.int .u32 0),1,4):=by kernel_rfl
theorem zdh (k:IntKind) (n:Nat) (hn:n<=1073741824) (w:World):
 (Instr.makeSlice 51 (.int k (n:Int)) (.int k (n:Int))).run Tryz.prog w= .ok (.slice (some ⟨w.heap.size,0,none⟩) n n) (w.alloc (.cells (y8 (List.replicate n 0)) 184)):=by
 rw [run_make_row' 51 184 (.int .u32 0) 4 underlying51 zom rfl k k n (by omega) (by omega) w,zh2]
def zxm (da db:List Nat) (w:World) (cv iv:Value) (wr:World):Prop:=
 ∃ (k c:Nat) (O:List Nat),k<=da.length/\iv= .int .i64 k/\cv= .int .u64 c/\c<=1/\O.length=da.length+1/\zI 4294967296 O/\
  Hid (val 4294967296 (O.take k)+c*4294967296 ^ k=val 4294967296 (da.take k)+val 4294967296 (db.take k))/\Blk wr w.heap.size 184 (y8 O)/\Below w.heap.size w wr
theorem vK (O:List Nat) (k d:Nat) (hk:k<O.length):(O.set k d).take (k+1)=O.take k ++ [d]:=by
 rw [Vq _ _ (by simpa using hk),List.take_set_of_le (Nat.le_refl _),List.getElem_set_self]
theorem zxm.step {da db:List Nat} {w wr:World} {k c:Nat} {O:List Nat} (hk:k<da.length) (hc:c<=1) (hO:O.length=da.length+1) (hsO:zI 4294967296 O)
 (HV:Hid (val 4294967296 (O.take k)+c*4294967296 ^ k=val 4294967296 (da.take k)+val 4294967296 (db.take k))) (hblk:Blk wr w.heap.size 184 (y8 O)) (hbl:Below w.heap.size w wr)
 (hsa:zI 4294967296 da) (hsb:zI 4294967296 db) (t:Nat) (ht:t=c+da.getD k 0+db.getD k 0) (cv iv sv:Value) (hcv:cv= .int .u64 ((t / 4294967296:Nat):Int)) (hiv:iv= .int .i64 ((k+1:Nat):Int)) (hsv:sv= .int .u32 ((t % 4294967296:Nat):Int)):
 zxm da db w cv iv (wr.setCell ⟨w.heap.size,k,none⟩ sv):=by
 subst hcv hiv hsv ht
 have e:=hsa.getD (by omega) k
 have b:=hsb.getD (by omega) k
 refine ⟨k+1,_,O.set k ((c+da.getD k 0+db.getD k 0) % 4294967296),by omega,rfl,rfl,by omega,by simpa using hO,hsO.set _ _ (Nat.mod_lt _ (by omega)),?_,?_,hbl.setCell (Nat.le_refl _) _⟩
 . rw [vK _ _ _ (by omega),Yb,List.length_take,Nat.min_eq_left (by omega),zO,zO]
   exact zf0 HV.o
 have:=hblk.set_ k (.int .u32 (((c+da.getD k 0+db.getD k 0) % 4294967296:Nat):Int))
 rwa [yZ] at this
theorem ze2 (A:Option Addr) (ca:Nat) (b:List Nat) (B:Option Addr) (cb:Nat) (db:List Nat) (w:World) (args:Array Value)
 (hra:zV w w.heap.size 1 A b.length (XY b)) (hsa:zI 4294967296 b) (hrb:zV w w.heap.size 1 B db.length (XY db)) (hsb:zI 4294967296 db)
 (hle:db.length<=b.length) (hla:b.length<=67108864)
 (hargs:args=#[.slice A b.length ca,.slice B db.length cb]\/(db.length<b.length/\args=#[.slice B db.length cb,.slice A b.length ca])):
 Calls Tryz.prog 97 args w (zat w (val 4294967296 b+val 4294967296 db)):=by
 have N:=fun w=>zdh .i64 (b.length+1) (by omega) w
 rw [show ((b.length+1:Nat):Int)=(b.length:Int)+1 by omega] at N
 rcases hargs with rfl | ⟨m,rfl⟩
 all_goals
  go_enter func97,ntmps97
  go_wp2
  go_loopw [6,21] (zxm b db w) (fun _ iv _=>b.length - (intOf iv).toNat)
  case atStart=>
   exact ⟨0,0,List.replicate (b.length+1) 0,by omega,rfl,rfl,by omega,by simp,zI.replicate (by omega) _,by simp [Hid,val],Blk.new _ _ _,(Below.refl _ _).alloc (Nat.le_refl _) _⟩
  case round=>
   obtain ⟨k,c,O,Y,rfl,rfl,J,E,F,C,r,y⟩:=hrel;have hg:=r.lt;have V:=(r.cell k).trans (xM (by omega));have X:=r.frozen k
   by_cases m:k<b.length
   rotate_left
   . obtain rfl:k=b.length:=by omega
     have G:=r.set_ b.length (.int .u32 (c:Int));rw [yZ] at G;have K:=vV G;rw [show (O.set b.length c).length=b.length+1 by simpa using E] at K
     have I:val 4294967296 (O.set b.length c)=val 4294967296 b+val 4294967296 db:=by
      have:=C.o;rw [List.take_length,List.take_of_length_le hle] at this;rw [<- this, <- List.take_length (l:=O.set b.length c),show (O.set b.length c).length=b.length+1 by simpa using E,vK _ _ _ (by omega),Yb,List.length_take,Nat.min_eq_left (by omega),Nat.mul_comm c]
     have S:=F.set b.length c (by omega);have Q:=ze I;clear I C;go_wp2_with (go_at_call 138;refine (Yf _ _ _ _ _ _ K S (Nat.le_refl _) (by unfold maxLen;omega)).mono ?_;rintro e w' ⟨v,rfl,M,rfl⟩);go_ret;refine ⟨v,rfl,?_,y.setCell (Nat.le_refl _) _⟩;rw [<- Q.o];exact M
   obtain ⟨R,u,rfl,L,j,z⟩:=hra.at_ m
   rw [xb m] at j;injection j with j
   subst j;have Z:=(y.cell (p:=R.add k) (by rw [zz];exact L)).trans z;clear z;have ac:b[k]<4294967296:=hsa.get k m
   by_cases D:k<db.length
   rotate_left
   . go_wp2
     go_roundw
     case rel=>exact zxm.step m J E F C r y hsa hsb (c+b[k]) (by rw [zv m,xq (by omega)];rfl) _ _ _ (by go_num) (by go_num) (by go_num)
     case measure=>simp [intOf];omega
   obtain ⟨U,u,rfl,T,j,z⟩:=hrb.at_ D
   rw [xb D] at j;injection j with j
   subst j;have ab:=(y.cell (p:=U.add k) (by rw [zz];exact T)).trans z;clear z;have aa:db[k]<4294967296:=hsb.get k D;go_wp2;go_roundw
   case rel=>exact zxm.step m J E F C r y hsa hsb (c+b[k]+db[k]) (by rw [zv m,zv D]) _ _ _ (by go_num) (by go_num) (by go_num)
   case measure=>simp [intOf];omega
theorem zdf (va vb:Value) (a b:Nat) (w:World) (ha:yF w va a) (hb:yF w vb b) (hla:len 4294967296 a<=67108864) (hlb:len 4294967296 b<=67108864):
 Calls Tryz.prog 97 #[va,vb] w (zat w (a+b)):=by
 obtain ⟨A,y,m,rfl,D,C,r,l,rfl⟩:=ha
 obtain ⟨B,u,e,rfl,k1,k2,z,j,rfl⟩:=hb
 rw [<- l.length_eq (by omega)] at hla
 rw [<- j.length_eq (by omega)] at hlb
 rcases Nat.lt_or_ge m.length e.length with h | h
 . rw [Nat.add_comm]
   exact ze2 B u e A y m w _ z j.1 r l.1 (by omega) hlb (.inr ⟨h,rfl⟩)
 . exact ze2 A y m B u e w _ r l.1 z j.1 h hla (.inl rfl)
end Go.Proofs.YthbmhkiphmcogaaGreatDoor
