/- Parts of the proof: memory, numbers, walks of the functions that are called. -/
import Derived.Shelf.Strings.Repeat
import Derived.Test.YtnpbflhjglkokaaGreatDoorMn19
set_option linter.unusedVariables false
set_option linter.unusedSimpArgs false
namespace Go.Proofs.YtnpbflhjglkokaaGreatDoor
open Go.RowKit Go.Shelf
def zc6:Go.Shelf.Ren:=⟨fun | 105=>83 | 212=>158 | 99=>159 | 165=>160 | 166=>56 | 170=>57 | 169=>58 | 263=>216 | 264=>217 | 206=>218 | 240=>129 | 241=>219 | 276=>206 | 277=>243 | n=>n,fun | 9=>9 | 3=>3 | 4=>4 | 20=>20 | 0=>0 | 46=>207 | 109=>208 | 5=>5 | 72=>91 | 76=>94 | 51=>205 | 146=>264 | 53=>168 | 148=>266 | 70=>88 | 37=>89 | 75=>93 | 127=>184 | 164=>255 | 80=>97 | n=>n,fun | n=>n⟩
theorem zpx:Go.Proofs.Lays.n105 Tryz.prog zc6:={
 mixed:=by kernel_rfl
 f99:=Tryz.func159.trans (congrArg some (by kernel_rfl))
 f105:=Tryz.func83.trans (congrArg some (by kernel_rfl))
 f165:=Tryz.func160.trans (congrArg some (by kernel_rfl))
 f166:=Tryz.func56.trans (congrArg some (by kernel_rfl))
 f169:=Tryz.func58.trans (congrArg some (by kernel_rfl))
 f170:=Tryz.func57.trans (congrArg some (by kernel_rfl))
 f206:=Tryz.func218.trans (congrArg some (by kernel_rfl))
 f212:=Tryz.func158.trans (congrArg some (by kernel_rfl))
 f240:=Tryz.func129.trans (congrArg some (by kernel_rfl))
 f241:=Tryz.func219.trans (congrArg some (by kernel_rfl))
 f263:=Tryz.func216.trans (congrArg some (by kernel_rfl))
 f264:=Tryz.func217.trans (congrArg some (by kernel_rfl))
 f276:=Tryz.func206.trans (congrArg some (by kernel_rfl))
 f277:=Tryz.func243.trans (congrArg some (by kernel_rfl))
 t0:=Tryz.underlying0
 a0:=Tryz.isAgg0
 z0:=Tryz.sizeOf0
 v0:=Tryz.zeroValue0
 t3:=Tryz.underlying3
 a3:=Tryz.isAgg3
 z3:=Tryz.sizeOf3
 v3:=Tryz.zeroValue3
 t4:=Tryz.underlying4
 a4:=Tryz.isAgg4
 z4:=Tryz.sizeOf4
 v4:=Tryz.zeroValue4
 t5:=Tryz.underlying5
 a5:=Tryz.isAgg5
 z5:=Tryz.sizeOf5
 v5:=Tryz.zeroValue5
 t9:=Tryz.underlying9
 a9:=Tryz.isAgg9
 z9:=Tryz.sizeOf9
 v9:=Tryz.zeroValue9
 t20:=Tryz.underlying20
 a20:=Tryz.isAgg20
 z20:=Tryz.sizeOf20
 v20:=Tryz.zeroValue20
 t37:=Tryz.underlying89
 a37:=Tryz.isAgg89
 z37:=Tryz.sizeOf89
 v37:=Tryz.zeroValue89
 t46:=Tryz.underlying207
 a46:=Tryz.isAgg207
 z46:=Tryz.sizeOf207
 v46:=Tryz.zeroValue207
 t51:=Tryz.underlying205
 a51:=Tryz.isAgg205
 z51:=Tryz.sizeOf205
 v51:=Tryz.zeroValue205
 t53:=Tryz.underlying168
 a53:=Tryz.isAgg168
 z53:=Tryz.sizeOf168
 v53:=Tryz.zeroValue168
 t70:=Tryz.underlying88
 a70:=Tryz.isAgg88
 z70:=Tryz.sizeOf88
 v70:=Tryz.zeroValue88
 t72:=Tryz.underlying91
 a72:=Tryz.isAgg91
 z72:=Tryz.sizeOf91
 v72:=Tryz.zeroValue91
 t75:=Tryz.underlying93
 a75:=Tryz.isAgg93
 z75:=Tryz.sizeOf93
 v75:=Tryz.zeroValue93
 t76:=Tryz.underlying94
 a76:=Tryz.isAgg94
 z76:=Tryz.sizeOf94
 v76:=Tryz.zeroValue94
 t109:=Tryz.underlying208
 a109:=Tryz.isAgg208
 z109:=Tryz.sizeOf208
 v109:=Tryz.zeroValue208
 t127:=Tryz.underlying184
 a127:=Tryz.isAgg184
 z127:=Tryz.sizeOf184
 v127:=Tryz.zeroValue184
 t146:=Tryz.underlying264
 a146:=Tryz.isAgg264
 z146:=Tryz.sizeOf264
 v146:=Tryz.zeroValue264
 t148:=Tryz.underlying266
 a148:=Tryz.isAgg266
 z148:=Tryz.sizeOf266
 v148:=Tryz.zeroValue266
 t164:=Tryz.underlying255
 a164:=Tryz.isAgg255
 z164:=Tryz.sizeOf255
 v164:=Tryz.zeroValue255 }
theorem znm:Builder.Extra Tryz.prog zc6:={
 sizeBuilder:=by kernel_rfl
 liesBuilder:=by kernel_rfl
 t5:=Tryz.underlying5
 a5:=Tryz.isAgg5
 z5:=Tryz.sizeOf5
 v5:=Tryz.zeroValue5
 infoByte:=by kernel_rfl
 cellsByte:=by kernel_rfl
 sizeByte:=by kernel_rfl
 neB5:=by decide }
open Go.RowKit Go.Lib in
theorem zfk (s:ByteArray) (c:Nat) (w:World) (hc:c<=9223372036854775807) (hlen:s.size*c<=140737488355328):
 Calls Tryz.prog 83 #[.string s,.int .i64 c] w fun e w' =>e= .returned (.string ⟨(Lib.repeatL s.data.toList c).toArray⟩)/\Below w.heap.size w w' :=Any.strings_Repeat zpx znm s c w hc hlen
end Go.Proofs.YtnpbflhjglkokaaGreatDoor
namespace Go.Proofs.YtnpbflhjglkokaaGreatDoor
open Go.RowKit Go.Deep
def zs (k:Nat):List UInt8:=List.replicate k 48
theorem zhf (k:Nat):Lib.repeatL [48] k=zs k:=by
 induction k with
 | zero=>rfl
 | succ k ih=>show [48] ++ Lib.repeatL [48] k=_;rw [ih];rfl
theorem zhq (k:Nat):(zs k).all yp=true:=by
 rw [List.all_eq_true]
 intro x hx
 rw [List.eq_of_mem_replicate hx];rfl
theorem zj6 (k:Nat):∀ n,(zs k).foldl (fun n c=>10*n+dig c) n=n*10 ^ k:=by
 induction k with
 | zero=>intro n;simp [zs]
 | succ k ih=>
   intro n
   show (zs k).foldl _ (10*n+dig 48)=_
   rw [ih,Nat.pow_succ];have:dig 48=0:=by decide
   rw [this,Nat.add_zero,Nat.mul_comm 10 n,Nat.mul_assoc,Nat.mul_comm 10]
theorem zaj (k:Nat):zq (49 :: zs k)=10 ^ k:=by
 show (zs k).foldl _ (10*0+dig 49)=_
 rw [zj6]
 have:dig 49=1:=by decide
 rw [this,Nat.mul_zero,Nat.zero_add,Nat.one_mul]
theorem zgj (k:Nat) (hk:k<=50000) (w:World):∃ z:ByteArray,bts z=zs k/\z.size=k/\
 Calls Tryz.prog 83 #[.string ⟨#[48]⟩,.int .i64 k] w (zdt w (.string z)):=by
 have h:=zfk ⟨#[48]⟩ k w (by omega) (by show 1*k<=_;omega)
 have e:(⟨#[48]⟩:ByteArray).data.toList=[48]:=rfl
 rw [e,zhf] at h
 have hb:bts ⟨(zs k).toArray⟩=zs k:=vr _
 exact ⟨⟨(zs k).toArray⟩,hb,by rw [<- zi,hb];unfold zs;rw [List.length_replicate],h⟩
theorem Zh (a b:ByteArray):bts (a ++ b)=bts a ++ bts b:=by
 unfold bts
 simp
end Go.Proofs.YtnpbflhjglkokaaGreatDoor
namespace Go.Proofs.YtnpbflhjglkokaaGreatDoor
open Go.RowKit Go.Deep
attribute [local go_sem ↓] Go.wp_at_zero Go.wp_at_succ
def PowR (w0:World) (r:Nat) (lv iv:Value) (wr:World):Prop:=∃ i:Nat,i<=r/\lv= .int .i64 ((10 ^ i:Nat):Int)/\iv= .int .i64 i/\w0=wr
theorem ziq (m x:Nat) (h0:0<x) (hx:x<1000000000):yv 1000000000 (List.replicate m 0 ++ [x])/\val 1000000000 (List.replicate m 0 ++ [x])=1000000000 ^ m*x:=by
 refine ⟨⟨(fun d hd=>?_),?_⟩,?_⟩
 . rcases List.mem_append.1 hd with h | h
   . rw [List.eq_of_mem_replicate h];omega
   . rw [List.mem_singleton.1 h];exact hx
 . rw [List.getLast?_append];simp;omega
 . rw [vG,Yc,List.length_replicate,Nat.zero_add]
set_option maxRecDepth 100000 in
set_option maxHeartbeats 1000000 in
theorem zj0 (k:Nat) (w:World) (hk:k<=100000):
 Calls Tryz.prog 91 #[.int .i64 k] w (zay w (10 ^ k)):=by
 obtain ⟨i0,hi0,hz0,hz1,hz2⟩:=info_parts zag
 obtain ⟨m,hm⟩:∃ m,m=k / 9:=⟨_,rfl⟩
 obtain ⟨r,hr⟩:∃ r,r=k % 9:=⟨_,rfl⟩
 have hmr:k=9*m+r:=by omega
 have hr8:r<=8:=by omega
 have hm5:m<=100000:=by omega
 have e1:Int.tdiv (k:Int) 9=(m:Int):=by rw [hm];exact Int.ofNat_tdiv k 9
 have e2:Int.tmod (k:Int) 9=(r:Int):=by rw [hr];rfl
 have e3:IntKind.i64.wrap (m:Int)=(m:Int):=by rw [IntKind.wrap_i64];omega
 have e4:IntKind.i64.wrap (r:Int)=(r:Int):=by rw [IntKind.wrap_i64];omega
 have HMR:=ze hmr
 clear hm hr hmr
 have hmk:=fun w=>zij .i64 m (by omega) w
 have hown:=World.ownsRow_lit (base:=w.heap.size) (e:=3) (size:=1) w (y8 (List.replicate m 0)) m (Nat.le_refl _) (by unfold maxLen;omega) (by rw [XZ,List.length_replicate,Nat.mul_one])
 have hlist:(y8 (List.replicate m 0)).toList=vT (List.replicate m 0):=by simp [y8]
 rw [hlist] at hown
 have hx:=zf w (.cells (y8 (List.replicate m 0)) 3)
 clear hlist
 go_enter Tryz.func91,Tryz.ntmps91
 go_upto_region 2 with fail
 generalize w.alloc (.cells (y8 (List.replicate m 0)) 3)=W at hown hx |-
 go_wp2_with fail
 go_loopw [4,5] (PowR W r) (fun _ iv _=>r - (intOf iv).toNat)
 case atStart=>exact ⟨0,Nat.zero_le _,rfl,rfl,rfl⟩
 case round=>
  obtain ⟨i,hi,rfl,rfl,rfl⟩:=hrel
  by_cases hil:i<r
  . have hii:(i:Int)<(r:Int):=by omega
    have hp:10 ^ i<=100000000:=by
     have:=Nat.pow_le_pow_right (n:=10) (by omega) (show i<=8 by omega)
     omega
    have hp1:10 ^ (i+1)=10 ^ i*10:=Nat.pow_succ 10 i;generalize 10 ^ i=x at hp hp1 |-;have e5:IntKind.i64.wrap ((x:Int)*10)=((10 ^ (i+1):Nat):Int):=by rw [hp1,IntKind.wrap_i64];omega
    have E5:=ze e5;clear hp1;go_wp2_with fail;go_roundw
    case rel=>exact ⟨i+1,by omega,by first | rfl | exact congrArg _ E5.out | (simp;done),by go_num,rfl⟩
    case measure=>simp [intOf];omega
  . obtain rfl:r=i:=by omega
    have hp:10 ^ r<=100000000:=by
     have:=Nat.pow_le_pow_right (n:=10) (by omega) hr8
     omega
    have hp0:0<10 ^ r:=Nat.pow_pos (by omega)
    have hpk:10 ^ k=1000000000 ^ m*10 ^ r:=by
     rw [HMR.out,Nat.pow_add,Nat.pow_mul]
    obtain ⟨x,hxx⟩:∃ x,x=10 ^ r:=⟨_,rfl⟩;rw [<- hxx] at hp hp0 hpk |-;have HPK:=ze hpk;clear hxx hpk;have hrd:=vM W 3 (.int .i64 (x:Int))
    have h1c:∀ u∈[Value.int .i64 (x:Int)],u.oneCell' =true:=by
     intro u hu;rw [List.mem_singleton] at hu;subst hu;rfl
    go_wp2_with (at_builtin;refine yq _ rfl (.tmp 17) (.tmp 19) _ rfl w.heap.size 3 i0 _ 1 8 Tryz.underlying76 hi0 hz0 hz1 hz2 rfl (by omega) _ m (vT (List.replicate m 0)) rfl (hown.alloc _) _ (some ⟨W.heap.size,0,none⟩) 1 1 _ rfl hrd h1c ?o2 ?o3 ?o4 ?_)
    case o2=>unfold maxLen;omega
    case o3=>omega
    case o4=>have:=hx.size;simp;omega
    intro v3 w3 hown3 hgr3 hat3;have HO3:=ze hown3;have HG3:=ze hgr3;clear hown3 hgr3 hat3 hrd h1c;go_wp2_with fail;go_ret;obtain ⟨hcan,hval⟩:=ziq m x hp0 (by omega);have hO:w3.ownsRow w.heap.size 3 1 v3 (m+1) (vT (List.replicate m 0 ++ [x])):=by rw [YJ];exact HO3.out
    obtain ⟨A,c,rfl,h1,h2,h3⟩:=Xa hO;have hl:(List.replicate m 0 ++ [x]).length=m+1:=by simp
    refine ⟨_,rfl,⟨A,c,List.replicate m 0 ++ [x],by rw [hl];rfl,by rw [hl];exact h1,h2,by rw [hl];exact h3,hcan,by rw [hval,HPK.out]⟩,?_⟩;exact (hx.alloc hx.size _).grown HG3.out (by have:=hx.size;simp;omega) (fun k hk=>(hown.lt k hk).1)
end Go.Proofs.YtnpbflhjglkokaaGreatDoor
