/- Parts of the proof: memory, numbers, walks of the functions that are called. -/
import Derived.Deep.OwnRows
import Derived.Test.YtkmcmmcencdcpaaGreatDoorMt03
set_option linter.unusedVariables false
set_option linter.unusedSimpArgs false
namespace Go.Proofs.YtkmcmmcencdcpaaGreatDoor
open Go.RowKit Go.Deep
theorem zj1:(Tryz.prog.info? 221).map (fun i=>(i.zero,i.size,i.bytes))=some (some (.int .u32 0),1,4):=by kernel_rfl
theorem zay (k:IntKind) (n:Nat) (hn:n<=1073741824) (w:World):
 (Instr.makeSlice 89 (.int k (n:Int)) (.int k (n:Int))).run Tryz.prog w= .ok (.slice (some ⟨w.heap.size,0,none⟩) n n) (w.alloc (.cells (yv (List.replicate n 0)) 221)):=by
 rw [run_make_row' 89 221 (.int .u32 0) 4 Tryz.underlying89 zj1 rfl k k n (by omega) (by omega) w,zfe]
def zry (da db:List Nat) (w:World) (cv iv:Value) (wr:World):Prop:=
 ∃ (k c:Nat) (O:List Nat),k<=da.length/\iv= .int .i64 k/\cv= .int .u64 c/\c<=1/\O.length=da.length+1/\zD 4294967296 O/\
  Hid (val 4294967296 (O.take k)+c*4294967296 ^ k=val 4294967296 (da.take k)+val 4294967296 (db.take k))/\Blk wr w.heap.size 221 (yv O)/\Below w.heap.size w wr
theorem xQ (O:List Nat) (k d:Nat) (hk:k<O.length):(O.set k d).take (k+1)=O.take k ++ [d]:=by
 rw [YQ _ _ (by simpa using hk),List.take_set_of_le (Nat.le_refl _),List.getElem_set_self]
theorem zry.step {da db:List Nat} {w wr:World} {k c:Nat} {O:List Nat} (hk:k<da.length) (hc:c<=1) (hO:O.length=da.length+1) (hsO:zD 4294967296 O)
 (HV:Hid (val 4294967296 (O.take k)+c*4294967296 ^ k=val 4294967296 (da.take k)+val 4294967296 (db.take k))) (hblk:Blk wr w.heap.size 221 (yv O)) (hbl:Below w.heap.size w wr)
 (hsa:zD 4294967296 da) (hsb:zD 4294967296 db) (t:Nat) (ht:t=c+da.getD k 0+db.getD k 0) (cv iv sv:Value) (hcv:cv= .int .u64 ((t / 4294967296:Nat):Int)) (hiv:iv= .int .i64 ((k+1:Nat):Int)) (hsv:sv= .int .u32 ((t % 4294967296:Nat):Int)):
 zry da db w cv iv (wr.setCell ⟨w.heap.size,k,none⟩ sv):=by
 subst hcv hiv hsv ht
 have hx:=hsa.getD (by omega) k
 have hy:=hsb.getD (by omega) k
 refine ⟨k+1,_,O.set k ((c+da.getD k 0+db.getD k 0) % 4294967296),by omega,rfl,rfl,by omega,by simpa using hO,hsO.set _ _ (Nat.mod_lt _ (by omega)),?_,?_,hbl.setCell (Nat.le_refl _) _⟩
 . rw [xQ _ _ _ (by omega),Zk,List.length_take,Nat.min_eq_left (by omega),zJ,zJ]
   exact zda HV.out
 . have:=hblk.set_ k (.int .u32 (((c+da.getD k 0+db.getD k 0) % 4294967296:Nat):Int))
   rwa [yK] at this
theorem zbu (A:Option Addr) (ca:Nat) (da:List Nat) (B:Option Addr) (cb:Nat) (db:List Nat) (w:World) (args:Array Value)
 (hra:zY w w.heap.size 1 A da.length (YE da)) (hsa:zD 4294967296 da) (hrb:zY w w.heap.size 1 B db.length (YE db)) (hsb:zD 4294967296 db)
 (hle:db.length<=da.length) (hla:da.length<=67108864)
 (hargs:args=#[.slice A da.length ca,.slice B db.length cb]\/(db.length<da.length/\args=#[.slice B db.length cb,.slice A da.length ca])):
 Calls Tryz.prog 173 args w (XL w (val 4294967296 da+val 4294967296 db)):=by
 have hmk:=fun w=>zay .i64 (da.length+1) (by omega) w
 rw [show ((da.length+1:Nat):Int)=(da.length:Int)+1 by omega] at hmk
 rcases hargs with rfl | ⟨hlt,rfl⟩
 all_goals
  go_enter Tryz.func173,Tryz.ntmps173
  go_wp2
  go_loopw [6,21] (zry da db w) (fun _ iv _=>da.length - (intOf iv).toNat)
  case atStart=>
   exact ⟨0,0,List.replicate (da.length+1) 0,by omega,rfl,rfl,by omega,by simp,zD.replicate (by omega) _,by simp [Hid,val],Blk.new _ _ _,(Below.refl _ _).alloc (Nat.le_refl _) _⟩
  case round=>
   obtain ⟨k,c,O,hk,rfl,rfl,hc,hO,hsO,HV,hblk,hbl⟩:=hrel;have hg:=hblk.lt;have hcello:=(hblk.cell k).trans (xm (by omega));have hfr:=hblk.frozen k
   by_cases hlt:k<da.length
   . obtain ⟨ada,u,rfl,hba,hx,hcell⟩:=hra.at_ hlt
     rw [yQ hlt] at hx;injection hx with hx
     subst hx;have hcella:=(hbl.cell (p:=ada.add k) (by rw [zF];exact hba)).trans hcell;clear hcell;have hx1:da[k]<4294967296:=hsa.get k hlt
     by_cases hkb:k<db.length
     . obtain ⟨adb,u,rfl,hbb,hx,hcell⟩:=hrb.at_ hkb
       rw [yQ hkb] at hx;injection hx with hx
       subst hx;have hcellb:=(hbl.cell (p:=adb.add k) (by rw [zF];exact hbb)).trans hcell;clear hcell;have hy1:db[k]<4294967296:=hsb.get k hkb;go_wp2;go_roundw
       case rel=>exact zry.step hlt hc hO hsO HV hblk hbl hsa hsb (c+da[k]+db[k]) (by rw [zu hlt,zu hkb]) _ _ _ (by go_num) (by go_num) (by go_num)
       case measure=>simp [intOf];omega
     . go_wp2
       go_roundw
       case rel=>exact zry.step hlt hc hO hsO HV hblk hbl hsa hsb (c+da[k]) (by rw [zu hlt,yX (by omega)];rfl) _ _ _ (by go_num) (by go_num) (by go_num)
       case measure=>simp [intOf];omega
   . obtain rfl:k=da.length:=by omega
     have hb1:=hblk.set_ da.length (.int .u32 (c:Int));rw [yK] at hb1;have hr1:=ve hb1;rw [show (O.set da.length c).length=da.length+1 by simpa using hO] at hr1
     have hv1:val 4294967296 (O.set da.length c)=val 4294967296 da+val 4294967296 db:=by
      have:=HV.out;rw [List.take_length,List.take_of_length_le hle] at this;rw [<- this, <- List.take_length (l:=O.set da.length c),show (O.set da.length c).length=da.length+1 by simpa using hO,xQ _ _ _ (by omega),Zk,List.length_take,Nat.min_eq_left (by omega),Nat.mul_comm c]
     have hs1:=hsO.set da.length c (by omega);have HV1:=ze hv1;clear hv1 HV;go_wp2_with (go_at_call 174;refine (Zr _ _ _ _ _ _ hr1 hs1 (Nat.le_refl _) (by unfold maxLen;omega)).mono ?_;rintro e w' ⟨v,rfl,hnat,rfl⟩);go_ret;refine ⟨v,rfl,?_,hbl.setCell (Nat.le_refl _) _⟩;rw [<- HV1.out];exact hnat
theorem za3 (va vb:Value) (a b:Nat) (w:World) (ha:y6 w va a) (hb:y6 w vb b) (hla:len 4294967296 a<=67108864) (hlb:len 4294967296 b<=67108864):
 Calls Tryz.prog 173 #[va,vb] w (XL w (a+b)):=by
 obtain ⟨A,ca,da,rfl,h1,h2,h3,h4,rfl⟩:=ha
 obtain ⟨B,cb,db,rfl,k1,k2,k3,k4,rfl⟩:=hb
 rw [<- h4.length_eq (by omega)] at hla
 rw [<- k4.length_eq (by omega)] at hlb
 rcases Nat.lt_or_ge da.length db.length with h | h
 . rw [Nat.add_comm]
   exact zbu B cb db A ca da w _ k3 k4.1 h3 h4.1 (by omega) hlb (.inr ⟨h,rfl⟩)
 . exact zbu A ca da B cb db w _ h3 h4.1 k3 k4.1 h hla (.inl rfl)
end Go.Proofs.YtkmcmmcencdcpaaGreatDoor
