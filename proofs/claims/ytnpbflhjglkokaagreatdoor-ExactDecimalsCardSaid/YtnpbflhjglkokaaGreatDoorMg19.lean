/- Parts of the proof: memory, numbers, walks of the functions that are called. -/
import Derived.Shelf.Strings.Repeat
import Derived.Test.YtnpbflhjglkokaaGreatDoorMg18
set_option linter.unusedVariables false
set_option linter.unusedSimpArgs false
set_option maxHeartbeats 32000000
namespace Go.Proofs.YtnpbflhjglkokaaGreatDoor
open Go.RowKit Go.Shelf
def zcz:Go.Shelf.Ren:=⟨fun | 105=>83 | 212=>158 | 99=>159 | 165=>160 | 166=>56 | 170=>57 | 169=>58 | 263=>216 | 264=>217 | 206=>218 | 240=>129 | 241=>219 | 276=>206 | 277=>243 | n=>n,fun | 9=>9 | 3=>3 | 4=>4 | 20=>20 | 0=>0 | 46=>207 | 109=>208 | 5=>5 | 72=>91 | 76=>94 | 51=>205 | 146=>264 | 53=>168 | 148=>266 | 70=>88 | 37=>89 | 75=>93 | 127=>184 | 164=>255 | 80=>97 | n=>n,fun | n=>n⟩
theorem zpc:Go.Proofs.Lays.n105 Tryz.prog zcz:={
 mixed:=by kernel_rfl
 f99:=Tryz.func159.trans (congrArg some (by kernel_rfl))
 f105:=Tryz.func83.trans (congrArg some (by kernel_rfl))
 f165:=Tryz.func160.trans (congrArg some (by kernel_rfl))
 f166:=Tryz.func56.trans (congrArg some (by kernel_rfl))
 f169:=Tryz.func58.trans (congrArg some (by kernel_rfl))
 f170:=Tryz.func57.trans (congrArg some (by kernel_rfl))
 f206:=Tryz.func218.trans (congrArg some (by kernel_rfl))
 f212:=Tryz.func158.trans (congrArg some (by kernel_rfl))
 f240:=Tryz.func129.trans (congrArg some (by kernel_rfl))
 f241:=Tryz.func219.trans (congrArg some (by kernel_rfl))
 f263:=Tryz.func216.trans (congrArg some (by kernel_rfl))
 f264:=Tryz.func217.trans (congrArg some (by kernel_rfl))
 f276:=Tryz.func206.trans (congrArg some (by kernel_rfl))
 f277:=Tryz.func243.trans (congrArg some (by kernel_rfl))
 t0:=Tryz.underlying0
 a0:=Tryz.isAgg0
 z0:=Tryz.sizeOf0
 v0:=Tryz.zeroValue0
 t3:=Tryz.underlying3
 a3:=Tryz.isAgg3
 z3:=Tryz.sizeOf3
 v3:=Tryz.zeroValue3
 t4:=Tryz.underlying4
 a4:=Tryz.isAgg4
 z4:=Tryz.sizeOf4
 v4:=Tryz.zeroValue4
 t5:=Tryz.underlying5
 a5:=Tryz.isAgg5
 z5:=Tryz.sizeOf5
 v5:=Tryz.zeroValue5
 t9:=Tryz.underlying9
 a9:=Tryz.isAgg9
 z9:=Tryz.sizeOf9
 v9:=Tryz.zeroValue9
 t20:=Tryz.underlying20
 a20:=Tryz.isAgg20
 z20:=Tryz.sizeOf20
 v20:=Tryz.zeroValue20
 t37:=Tryz.underlying89
 a37:=Tryz.isAgg89
 z37:=Tryz.sizeOf89
 v37:=Tryz.zeroValue89
 t46:=Tryz.underlying207
 a46:=Tryz.isAgg207
 z46:=Tryz.sizeOf207
 v46:=Tryz.zeroValue207
 t51:=Tryz.underlying205
 a51:=Tryz.isAgg205
 z51:=Tryz.sizeOf205
 v51:=Tryz.zeroValue205
 t53:=Tryz.underlying168
 a53:=Tryz.isAgg168
 z53:=Tryz.sizeOf168
 v53:=Tryz.zeroValue168
 t70:=Tryz.underlying88
 a70:=Tryz.isAgg88
 z70:=Tryz.sizeOf88
 v70:=Tryz.zeroValue88
 t72:=Tryz.underlying91
 a72:=Tryz.isAgg91
 z72:=Tryz.sizeOf91
 v72:=Tryz.zeroValue91
 t75:=Tryz.underlying93
 a75:=Tryz.isAgg93
 z75:=Tryz.sizeOf93
 v75:=Tryz.zeroValue93
 t76:=Tryz.underlying94
 a76:=Tryz.isAgg94
 z76:=Tryz.sizeOf94
 v76:=Tryz.zeroValue94
 t109:=Tryz.underlying208
 a109:=Tryz.isAgg208
 z109:=Tryz.sizeOf208
 v109:=Tryz.zeroValue208
 t127:=Tryz.underlying184
 a127:=Tryz.isAgg184
 z127:=Tryz.sizeOf184
 v127:=Tryz.zeroValue184
 t146:=Tryz.underlying264
 a146:=Tryz.isAgg264
 z146:=Tryz.sizeOf264
 v146:=Tryz.zeroValue264
 t148:=Tryz.underlying266
 a148:=Tryz.isAgg266
 z148:=Tryz.sizeOf266
 v148:=Tryz.zeroValue266
 t164:=Tryz.underlying255
 a164:=Tryz.isAgg255
 z164:=Tryz.sizeOf255
 v164:=Tryz.zeroValue255 }
theorem zmh:Builder.Extra Tryz.prog zcz:={
 sizeBuilder:=by kernel_rfl
 liesBuilder:=by kernel_rfl
 t5:=Tryz.underlying5
 a5:=Tryz.isAgg5
 z5:=Tryz.sizeOf5
 v5:=Tryz.zeroValue5
 infoByte:=by kernel_rfl
 cellsByte:=by kernel_rfl
 sizeByte:=by kernel_rfl
 neB5:=by decide }
open Go.RowKit Go.Lib in
theorem zer (s:ByteArray) (c:Nat) (w:World) (hc:c<=9223372036854775807) (hlen:s.size*c<=140737488355328):
 Calls Tryz.prog 83 #[.string s,.int .i64 c] w fun e w' =>e= .returned (.string ⟨(Lib.repeatL s.data.toList c).toArray⟩)/\Below w.heap.size w w' :=Any.strings_Repeat zpc zmh s c w hc hlen
end Go.Proofs.YtnpbflhjglkokaaGreatDoor
namespace Go.Proofs.YtnpbflhjglkokaaGreatDoor
open Go.RowKit Go.Deep
def zs (k:Nat):List UInt8:=List.replicate k 48
theorem zf8 (k:Nat):Lib.repeatL [48] k=zs k:=by
 induction k with
 | zero=>rfl
 | succ k ih=>show [48] ++ Lib.repeatL [48] k=_;rw [ih];rfl
theorem zhg (k:Nat):(zs k).all y7=true:=by
 rw [List.all_eq_true]
 intro x hx
 rw [List.eq_of_mem_replicate hx];rfl
theorem zim (k:Nat):∀ n,(zs k).foldl (fun n c=>10*n+dig c) n=n*10 ^ k:=by
 induction k with
 | zero=>intro n;simp [zs]
 | succ k ih=>
   intro n
   show (zs k).foldl _ (10*n+dig 48)=_
   rw [ih,Nat.pow_succ];have:dig 48=0:=by decide
   rw [this,Nat.add_zero,Nat.mul_comm 10 n,Nat.mul_assoc,Nat.mul_comm 10]
theorem zgx (k:Nat):zy (49 :: zs k)=10 ^ k:=by
 show (zs k).foldl _ (10*0+dig 49)=_
 rw [zim]
 have:dig 49=1:=by decide
 rw [this,Nat.mul_zero,Nat.zero_add,Nat.one_mul]
def zew (k:Nat) (s:List UInt8):List UInt8:=if s.length<=k then zs (k+1 - s.length) ++ s else s
def Zp (k:Nat) (s:List UInt8):List UInt8:=s.take (s.length - k) ++ (if 0<k then 46 :: s.drop (s.length - k) else [])
def zlh (z:Int) (k:Nat):List UInt8:=(if z<0 then [45] else []) ++ Zp k (zew k (dec z.natAbs))
def VQ (q:Rat) (k:Nat):Int:=(flr (q*((10 ^ k:Nat):Int))).num
def yC (l:List UInt8) (p:Int):List UInt8×Int:=match zq l with
 | some q=>if p<0\/50<p then ([],1) else (zlh (VQ q p.toNat) p.toNat,0)
 | none=>([],4)
theorem zkz (k:Nat) (s:List UInt8):k<(zew k s).length:=by
 unfold zew
 split
 . rw [List.length_append];unfold zs;rw [List.length_replicate];omega
 . omega
theorem zev {k:Nat} (h:k<=50):Dz 50 (((10 ^ k:Nat):Int):Rat):=by
 refine ⟨?_,?_⟩
 . show ((10 ^ k:Nat):Int).natAbs<=10 ^ 50
   rw [Int.natAbs_natCast];exact Nat.pow_le_pow_right (by omega) h
 . show 1<=10 ^ 50
   exact Nat.pow_pos (by omega)
theorem VV (k:Nat) (hk:k<=50000) (w:World):∃ z:ByteArray,bts z=zs k/\z.size=k/\
 Calls Tryz.prog 83 #[.string ⟨#[48]⟩,.int .i64 k] w (zg1 w (.string z)):=by
 have h:=zer ⟨#[48]⟩ k w (by omega) (by show 1*k<=_;omega)
 have e:(⟨#[48]⟩:ByteArray).data.toList=[48]:=rfl
 rw [e,zf8] at h
 have hb:bts ⟨(zs k).toArray⟩=zs k:=vj _
 exact ⟨⟨(zs k).toArray⟩,hb,by rw [<- zi,hb];unfold zs;rw [List.length_replicate],h⟩
theorem yu (a b:ByteArray):bts (a ++ b)=bts a ++ bts b:=by
 unfold bts
 simp
end Go.Proofs.YtnpbflhjglkokaaGreatDoor
namespace Go.Proofs.YtnpbflhjglkokaaGreatDoor
open Go.RowKit Go.Deep
attribute [local go_sem ↓] Go.wp_at_zero Go.wp_at_succ
def PowR (w0:World) (r:Nat) (lv iv:Value) (wr:World):Prop:=∃ i:Nat,i<=r/\lv= .int .i64 ((10 ^ i:Nat):Int)/\iv= .int .i64 i/\w0=wr
theorem zie (m x:Nat) (h0:0<x) (hx:x<1000000000):yz 1000000000 (List.replicate m 0 ++ [x])/\val 1000000000 (List.replicate m 0 ++ [x])=1000000000 ^ m*x:=by
 refine ⟨⟨(fun d hd=>?_),?_⟩,?_⟩
 . rcases List.mem_append.1 hd with h | h
   . rw [List.eq_of_mem_replicate h];omega
   . rw [List.mem_singleton.1 h];exact hx
 . rw [List.getLast?_append];simp;omega
 . rw [vF,ZP,List.length_replicate,Nat.zero_add]
set_option maxRecDepth 100000 in
theorem Yu (k:Nat) (w:World) (hk:k<=100000):
 Calls Tryz.prog 91 #[.int .i64 k] w (zaa w (10 ^ k)):=by
 obtain ⟨i0,hi0,hz0,hz1,hz2⟩:=info_parts VX
 obtain ⟨m,hm⟩:∃ m,m=k / 9:=⟨_,rfl⟩
 obtain ⟨r,hr⟩:∃ r,r=k % 9:=⟨_,rfl⟩
 have hmr:k=9*m+r:=by omega
 have hr8:r<=8:=by omega
 have hm5:m<=100000:=by omega
 have e1:Int.tdiv (k:Int) 9=(m:Int):=by rw [hm];exact Int.ofNat_tdiv k 9
 have e2:Int.tmod (k:Int) 9=(r:Int):=by rw [hr];rfl
 have e3:IntKind.i64.wrap (m:Int)=(m:Int):=by rw [IntKind.wrap_i64];omega
 have e4:IntKind.i64.wrap (r:Int)=(r:Int):=by rw [IntKind.wrap_i64];omega
 have HMR:=ze hmr
 clear hm hr hmr
 have hmk:=fun w=>zia .i64 m (by omega) w
 have hown:=World.ownsRow_lit (base:=w.heap.size) (e:=3) (size:=1) w (y9 (List.replicate m 0)) m (Nat.le_refl _) (by unfold maxLen;omega) (by rw [XD,List.length_replicate,Nat.mul_one])
 have hlist:(y9 (List.replicate m 0)).toList=vH (List.replicate m 0):=by simp [y9]
 rw [hlist] at hown
 have hx:=zf w (.cells (y9 (List.replicate m 0)) 3)
 clear hlist
 go_enter Tryz.func91,Tryz.ntmps91
 go_upto_region 2 with fail
 generalize w.alloc (.cells (y9 (List.replicate m 0)) 3)=W at hown hx |-
 go_wp2_with fail
 go_loopw [4,5] (PowR W r) (fun _ iv _=>r - (intOf iv).toNat)
 case atStart=>exact ⟨0,Nat.zero_le _,rfl,rfl,rfl⟩
 case round=>
  obtain ⟨i,hi,rfl,rfl,rfl⟩:=hrel
  by_cases hil:i<r
  . have hii:(i:Int)<(r:Int):=by omega
    have hp:10 ^ i<=100000000:=by
     have:=Nat.pow_le_pow_right (n:=10) (by omega) (show i<=8 by omega)
     omega
    have hp1:10 ^ (i+1)=10 ^ i*10:=Nat.pow_succ 10 i;generalize 10 ^ i=x at hp hp1 |-;have e5:IntKind.i64.wrap ((x:Int)*10)=((10 ^ (i+1):Nat):Int):=by rw [hp1,IntKind.wrap_i64];omega
    have E5:=ze e5;clear hp1;go_wp2_with fail;go_roundw
    case rel=>exact ⟨i+1,by omega,by first | rfl | exact congrArg _ E5.out | (simp;done),by go_num,rfl⟩
    case measure=>simp [intOf];omega
  . obtain rfl:r=i:=by omega
    have hp:10 ^ r<=100000000:=by
     have:=Nat.pow_le_pow_right (n:=10) (by omega) hr8
     omega
    have hp0:0<10 ^ r:=Nat.pow_pos (by omega)
    have hpk:10 ^ k=1000000000 ^ m*10 ^ r:=by
     rw [HMR.out,Nat.pow_add,Nat.pow_mul]
    obtain ⟨x,hxx⟩:∃ x,x=10 ^ r:=⟨_,rfl⟩;rw [<- hxx] at hp hp0 hpk |-;have HPK:=ze hpk;clear hxx hpk;have hrd:=xB W 3 (.int .i64 (x:Int))
    have h1c:∀ u∈[Value.int .i64 (x:Int)],u.oneCell' =true:=by
     intro u hu;rw [List.mem_singleton] at hu;subst hu;rfl
    go_wp2_with (at_builtin;refine zV _ rfl (.tmp 17) (.tmp 19) _ rfl w.heap.size 3 i0 _ 1 8 Tryz.underlying76 hi0 hz0 hz1 hz2 rfl (by omega) _ m (vH (List.replicate m 0)) rfl (hown.alloc _) _ (some ⟨W.heap.size,0,none⟩) 1 1 _ rfl hrd h1c ?o2 ?o3 ?o4 ?_)
    case o2=>unfold maxLen;omega
    case o3=>omega
    case o4=>have:=hx.size;simp;omega
    intro v3 w3 hown3 hgr3 hat3;have HO3:=ze hown3;have HG3:=ze hgr3;clear hown3 hgr3 hat3 hrd h1c;go_wp2_with fail;go_ret;obtain ⟨hcan,hval⟩:=zie m x hp0 (by omega);have hO:w3.ownsRow w.heap.size 3 1 v3 (m+1) (vH (List.replicate m 0 ++ [x])):=by rw [YE];exact HO3.out
    obtain ⟨A,c,rfl,h1,h2,h3⟩:=YX hO;have hl:(List.replicate m 0 ++ [x]).length=m+1:=by simp
    refine ⟨_,rfl,⟨A,c,List.replicate m 0 ++ [x],by rw [hl];rfl,by rw [hl];exact h1,h2,by rw [hl];exact h3,hcan,by rw [hval,HPK.out]⟩,?_⟩;exact (hx.alloc hx.size _).grown HG3.out (by have:=hx.size;simp;omega) (fun k hk=>(hown.lt k hk).1)
set_option maxRecDepth 100000 in
theorem zbg (a:ByteArray) (p:Int) (w:World) (ha:a.size<=1073741824):
 Calls Tryz.prog 30 #[.string a,.int .i64 p] w (zlq w (yC (bts a) p)):=by
 have hrb:=fun w=>Zy a w ha
 cases hq:zq (bts a) with
 | none=>
   have e0:yC (bts a) p=([],4):=by unfold yC;rw [hq]
   rw [e0];have HY:=ze hq;clear e0 hq
   go_enter Tryz.func30,Tryz.ntmps30
   go_wp2_with fail;refine (hrb _).mono ?_;rintro e w1 ⟨v,b',rfl,⟨x1,A1,k1,c1,s1,y1,B1,k1x,c1x,t1,rfl⟩,hbb,hq,hW⟩;rw [HY.out] at hbb;obtain rfl:b' =false:=hbb;have HW:=ze (ext hW (zf w1 (.cells #[.int .i64 x1,.slice A1 k1 c1,.bool s1,.int .i64 y1,.slice B1 k1x c1x,.bool t1] 111)));clear hq hW hrb;go_wp2_with fail;go_ret2;exact ⟨rfl,HW.out⟩
 | some q=>
   have HY:=ze hq
   by_cases h1:p<0
   . have e0:yC (bts a) p=([],1):=by unfold yC;rw [hq];exact if_pos (.inl h1)
     rw [e0];clear e0 hq
     go_enter Tryz.func30,Tryz.ntmps30
     go_wp2_with fail;refine (hrb _).mono ?_;rintro e w1 ⟨v,b',rfl,⟨x1,A1,k1,c1,s1,y1,B1,k1x,c1x,t1,rfl⟩,hbb,hq,hW⟩;rw [HY.out] at hbb;obtain rfl:b' =true:=hbb;have HW:=ze (ext hW (zf w1 (.cells #[.int .i64 x1,.slice A1 k1 c1,.bool s1,.int .i64 y1,.slice B1 k1x c1x,.bool t1] 111)));clear hq hW hrb;go_wp2_with fail;go_ret2;exact ⟨rfl,HW.out⟩
   by_cases h2:50<p
   . have e0:yC (bts a) p=([],1):=by unfold yC;rw [hq];exact if_pos (.inr h2)
     rw [e0];clear e0 hq
     go_enter Tryz.func30,Tryz.ntmps30
     go_wp2_with fail;refine (hrb _).mono ?_;rintro e w1 ⟨v,b',rfl,⟨x1,A1,k1,c1,s1,y1,B1,k1x,c1x,t1,rfl⟩,hbb,hq,hW⟩;rw [HY.out] at hbb;obtain rfl:b' =true:=hbb;have HW:=ze (ext hW (zf w1 (.cells #[.int .i64 x1,.slice A1 k1 c1,.bool s1,.int .i64 y1,.slice B1 k1x c1x,.bool t1] 111)));clear hq hW hrb;go_wp2_with fail;go_ret2;exact ⟨rfl,HW.out⟩
   obtain ⟨k,rfl⟩:∃ k:Nat,p=(k:Int):=⟨p.toNat,by omega⟩;have hk:k<=50:=by omega
   have e0:yC (bts a) (k:Int)=(zlh (VQ q k) k,0):=by unfold yC;rw [hq];show (if _ then _ else _)=_;rw [if_neg (by omega)];rfl
   rw [e0];have HL:=ze ((zc8 hq).more (show 50000<=8388608 by omega));have HP:=ze (show ZI 8388608 (((10 ^ k:Nat):Int):Rat) from (ZI.of_dz (zev hk)).more (by omega));have hsz:=Dz.mul (zjr hq) (zev hk) (Nat.le_refl _);have HM:=ze (show ZI 33554432 (q*(((10 ^ k:Nat):Int):Rat)) from (ZI.of_dz hsz).more (by omega));have HF:=ze (zld hsz);obtain ⟨n,hn⟩:∃ n,n=VQ q k:=⟨_,rfl⟩;rw [<- hn];have HN:=ze hn;clear e0 hq hsz hn
   go_enter Tryz.func30,Tryz.ntmps30
   go_wp2_with fail;refine (hrb _).mono ?_;rintro e w1 ⟨v,b',rfl,⟨x1,A1,k1,c1,s1,y1,B1,k1x,c1x,t1,rfl⟩,hbb,hq,hW⟩;rw [HY.out] at hbb;obtain rfl:b' =true:=hbb;have hb1:=zf w1 (.cells #[.int .i64 x1,.slice A1 k1 c1,.bool s1,.int .i64 y1,.slice B1 k1x c1x,.bool t1] 111);have HQ:=ze ((hq q HY.out).below hb1);have HK:=ze (Blk.new w1 111 #[.int .i64 x1,.slice A1 k1 c1,.bool s1,.int .i64 y1,.slice B1 k1x c1x,.bool t1]);have HW:=ze (ext hW hb1);clear hq hW hb1 hrb;go_wp2_with fail;have hrep:=fun W=>VV k (by omega) W
   obtain ⟨z,hz,hzs,hcall⟩:=hrep (w1.alloc (.cells #[.int .i64 x1,.slice A1 k1 c1,.bool s1,.int .i64 y1,.slice B1 k1x c1x,.bool t1] 111));clear hrep;refine hcall.mono ?_;rintro e w2 ⟨rfl,hb2⟩;replace HQ:=ze (HQ.out.below hb2);replace HK:=kb_ HK hb2;replace HW:=eb_ HW hb2;clear hb2;go_wp2_with fail;have ht:bts (⟨#[49]⟩ ++ z)=49 :: zs k:=by rw [yu,hz];rfl
   have hn:=fun w=>vK (⟨#[49]⟩ ++ z) w (by rw [ht];show (y7 49 && (zs k).all y7)=true;rw [zhg];rfl) (by rw [<- zi,ht];show (zs k).length+1<=50000;unfold zs;rw [List.length_replicate];omega)
   rw [ht,zgx] at hn;refine (hn _).mono ?_;rintro e w3 ⟨v3,rfl,hv3,hb3⟩;replace HQ:=ze (HQ.out.below hb3);replace HK:=kb_ HK hb3;replace HW:=eb_ HW hb3;have HV:=ze hv3;clear hb3 hv3 hn ht hz hzs hcall;go_wp2_with fail;refine (zT false v3 (10 ^ k) _ HV.out).mono ?_;rintro e w4 ⟨v4,rfl,hv4,hb4⟩;obtain ⟨x2,A2,k2,c2,s2,rfl,hh1,hh2,hh3⟩:=hv4.form;clear hh1 hh2 hh3;have hb5:=zf w4 (.cells #[.int .i64 x2,.slice A2 k2 c2,.bool s2,.int .i64 1,.slice none 0 0,.bool false] 111)
   have hr:yw w4 (.agg #[.int .i64 x2,.slice A2 k2 c2,.bool s2,.int .i64 1,.slice none 0 0,.bool false]) (((10 ^ k:Nat):Int):Rat):=
    ⟨_,_,_,_,_,_,_,_,_,_,rfl,hv4,.inl ⟨1,false,rfl,by omega,by omega,rfl⟩⟩
   have HR:=ze (hr.below hb5);replace HQ:=ze ((HQ.out.below hb4).below hb5);replace HK:=ze ((HK.out.below hb4 HK.out.lt).below hb5 (HK.out.below hb4 HK.out.lt).lt);replace HW:=ze (ext (ext HW.out hb4) hb5);have HK2:=ze (Blk.new w4 111 #[.int .i64 x2,.slice A2 k2 c2,.bool s2,.int .i64 1,.slice none 0 0,.bool false]);clear hb4 hb5 hr hv4 HV;have b0:=HK.out.cell 0;have b1:=HK.out.cell 1;have b2:=HK.out.cell 2;have b3:=HK.out.cell 3;have b4:=HK.out.cell 4;have b5:=HK.out.cell 5;simp at b0 b1 b2 b3 b4 b5;go_wp2_with fail;refine (zdj _ _ q (((10 ^ k:Nat):Int):Rat) _ HQ.out HR.out HL.out HP.out).mono ?_;rintro e w5 ⟨v5,rfl,hv5,hb5⟩;replace HW:=eb_ HW hb5;have HV:=ze hv5;clear hb5 hv5 HQ HR HK HK2 b0 b1 b2 b3 b4 b5;go_wp2_with fail;refine (zib _ _ _ HV.out HM.out).mono ?_;rintro e w6 ⟨v6,rfl,hv6,hb6⟩;replace HW:=eb_ HW hb6;have HV6:Hid (zK w6 v6 n):=ze (by rw [HN.out];exact hv6);have hlen:len 4294967296 n.natAbs<=67108864:=by rw [HN.out];exact Nat.le_trans (Dz.short HF.out (show 50000+50+1<60000 by omega)).len.1 (by omega)
   have hdl:(dec n.natAbs).length<=60000:=by rw [HN.out];exact (Dz.short HF.out (show 50000+50+1<60000 by omega)).1
   have HLEN:=ze hlen;have HDL:=ze hdl;clear hb6 hv6 HV HF HL HP HM hlen hdl HY HN;go_wp2_with fail;refine (xO v6 n _ HV6.out).mono ?_;rintro e w7 ⟨v7,rfl,hv7,hb7⟩;replace HW:=eb_ HW hb7;have HV7:=ze hv7;clear hb7 hv7 HV6;go_wp2_with fail;refine (Zb v7 n.natAbs _ HV7.out HLEN.out).mono ?_;rintro e w8 ⟨rfl,hb8⟩;replace HW:=eb_ HW hb8;clear hb8 HV7 HLEN;obtain ⟨s,hs⟩:∃ s:ByteArray,s=⟨(dec n.natAbs).toArray⟩:=⟨_,rfl⟩;rw [<- hs];have hs1:bts s=dec n.natAbs:=by rw [hs];exact vj _
   have hsz:s.size<=60000:=by rw [<- zi,hs1];exact HDL.out
   have HS:=ze hs1;clear hs hs1 HDL
   go_upto_if 47 with fail
   go_cut [11] from 12 (fun x wc=>∃ t:ByteArray,x= .string t/\Hid (bts t=zew k (dec n.natAbs))/\Hid (t.size<=60100)/\Hid (Below w.heap.size w wc))
   case first=>
    by_cases hle:s.size<=k
    . have hlI:(s.size:Int)<=(k:Int):=by omega
      have e1:IntKind.i64.wrap ((k:Int)+1)=(k:Int)+1:=by rw [IntKind.wrap_i64];omega
      have e2:IntKind.i64.wrap ((k:Int)+1 - (s.size:Int))=((k+1 - s.size:Nat):Int):=by rw [IntKind.wrap_i64];omega
      obtain ⟨z,hz,hzs,hcall⟩:=VV (k+1 - s.size) (by omega) w8;go_wp2_with fail;refine hcall.mono ?_;rintro e w9 ⟨rfl,hb9⟩;replace HW:=eb_ HW hb9
      have hpad:bts (z ++ s)=zew k (dec n.natAbs):=by
       rw [yu,hz,HS.out];unfold zew;have:(dec n.natAbs).length=s.size:=by rw [<- HS.out,zi]
       rw [this,if_pos hle]
      have HPAD:=ze hpad;have hsum:(z ++ s).size<=60100:=by rw [<- zi,yu,List.length_append,zi,zi];omega
      have HSUM:=ze hsum;clear hb9 hcall hpad hsum e1 e2;go_wp2_with fail;go_meet
      case rel=>exact ⟨_,rfl,HPAD,HSUM,HW⟩
    . have hlI:¬ (s.size:Int)<=(k:Int):=by omega
      have HPAD:=ze (show bts s=zew k (dec n.natAbs) by
       unfold zew;have:(dec n.natAbs).length=s.size:=by rw [<- HS.out,zi]
       rw [this,if_neg hle];exact HS.out)
      have HSUM:=ze (show s.size<=60100 by omega);go_wp2_with fail;go_meet
      case rel=>exact ⟨_,rfl,HPAD,HSUM,HW⟩
   case rest=>
   clear HW HS hsz;obtain ⟨t,rfl,HT,HTS,HW⟩:=hcut;have HTL:=ze (show k<t.size by rw [<- zi,HT.out];exact zkz _ _)
   go_upto_if 57 with fail
   go_cut [11] from 12 (fun x wc=>∃ u:ByteArray,x= .string u/\Hid (bts u=Zp k (zew k (dec n.natAbs)))/\Hid (u.size<=60200)/\Hid (Below w.heap.size w wc))
   case first=>
    have htl:=HTL.out;have hts:=HTS.out
    by_cases h0:0<k
    . have hkI:(0:Int)<(k:Int):=by omega
      have e1:IntKind.i64.wrap ((t.size:Int) - (k:Int))=(t.size:Int) - (k:Int):=by rw [IntKind.wrap_i64];omega
      have e2:0<=(t.size:Int) - (k:Int):=by omega
      have e3:(t.size:Int) - (k:Int)<=(t.size:Int):=by omega
      have e4:((t.size:Int) - (k:Int)).toNat=t.size - k:=by omega
      have e5:(t.extract 0 (t.size - k)).size=t.size - k:=by rw [<- zi,yh,List.drop_zero,List.length_take,zi];omega
      have e6:(t.extract (t.size - k) t.size).size=k:=by rw [<- zi,yh,List.length_drop,List.length_take,zi];omega
      go_upto_region 12 with fail
      go_region
      have hp:bts (t.extract 0 (t.size - k) ++ ⟨#[46]⟩ ++ t.extract (t.size - k) t.size)=Zp k (zew k (dec n.natAbs)):=by
       rw [yu,yu,yh,yh, <- HT.out,List.drop_zero, <- zi,List.take_length];unfold Zp;rw [if_pos h0,List.append_assoc]
       rfl
      have HP:=ze hp
      have HPS:=ze (show (t.extract 0 (t.size - k) ++ ⟨#[46]⟩ ++ t.extract (t.size - k) t.size).size<=60200 by
       rw [<- zi,yu,yu,List.length_append,List.length_append,zi,zi,zi,e5,e6];have:(⟨#[46]⟩:ByteArray).size=1:=rfl
       omega)
      have HWD:=ze (zp HW.out 1);clear hp e1 e2 e3 e4 e5 e6;go_wp2_with fail;go_meet
      case rel=>exact ⟨_,rfl,HP,HPS,HWD⟩
    . have hk0:k=0:=by omega
      have HP:=ze (show bts t=Zp k (zew k (dec n.natAbs)) by
       unfold Zp;rw [if_neg h0,hk0,Nat.sub_zero,List.take_length,List.append_nil, <- hk0]
       exact HT.out)
      have HPS:=ze (show t.size<=60200 by omega);clear htl hts;subst hk0;go_wp2_with fail;go_meet
      case rel=>exact ⟨_,rfl,HP,HPS,HW⟩
   case rest=>
   clear HW HT HTS HTL;obtain ⟨u,rfl,HU,HUS,HW⟩:=hcut;have HR:=ze (show zlh n k=(if n<0 then [45] else []) ++ bts u by rw [HU.out];rfl);have hus:=HUS.out
   by_cases h0:n<0
   . rw [if_pos h0] at HR
     go_wp2_with fail;go_ret2;rw [HR.out]
     have hv:str ([45] ++ bts u)= .string (⟨#[45]⟩ ++ u):=by
      have:[45] ++ bts u=bts (⟨#[45]⟩ ++ u):=by rw [yu];rfl
      rw [this,Yw]
     refine ⟨?_,HW.out⟩
     show _=Ending.returned (.tuple #[str ([45] ++ bts u),.int .i64 0])
     rw [hv]
     rfl
   . rw [if_neg h0] at HR
     go_wp2_with fail;go_ret2;rw [HR.out];have hv:str ([] ++ bts u)= .string u:=by rw [List.nil_append,Yw]
     refine ⟨?_,HW.out⟩
     show _=Ending.returned (.tuple #[str ([] ++ bts u),.int .i64 0])
     rw [hv]
     rfl
end Go.Proofs.YtnpbflhjglkokaaGreatDoor
