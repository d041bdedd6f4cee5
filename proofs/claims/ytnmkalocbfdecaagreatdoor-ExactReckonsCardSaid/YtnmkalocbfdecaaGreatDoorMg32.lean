/- Parts of the proof: memory, numbers, walks of the functions that are called. -/
import Derived.Ground.GgzProg
import Derived.Ground.SlgmProg
import Derived.Shelf.SlIter.Nil
import Derived.Shelf.SortM.Plain
import Derived.Shelf.SortM.SortNone
import Derived.Test.YtnmkalocbfdecaaGreatDoorMg19
set_option linter.unusedVariables false
set_option linter.unusedSimpArgs false
namespace Go.Proofs.YtnmkalocbfdecaaGreatDoor
open Go.RowKit Go.Maps Go.Sort Go.Shelf
def zbu:Go.Shelf.Ren:=⟨fun | 7=>160 | 10=>194 | n=>n,fun | 23=>206 | 26=>9 | 3=>4 | 28=>209 | 0=>0 | 27=>208 | 33=>97 | 4=>4 | n=>n,fun | n=>n⟩
theorem zpa:Go.Proofs.SlLaysZ.n7 Tryz.prog zbu:={
 mixed:=by kernel_rfl
 f7:=⟨Tryz.f160.name,by decide,Tryz.func160.trans (congrArg some (by kernel_rfl))⟩
 f10:=⟨Tryz.f194.name,by decide,Tryz.func194.trans (congrArg some (by kernel_rfl))⟩
 t0:=Tryz.underlying0
 a0:=Tryz.isAgg0
 z0:=Tryz.sizeOf0
 v0:=Tryz.zeroValue0
 t4:=Tryz.underlying4
 a4:=Tryz.isAgg4
 z4:=Tryz.sizeOf4
 v4:=Tryz.zeroValue4
 t23:=Tryz.underlying206
 a23:=Tryz.isAgg206
 z23:=Tryz.sizeOf206
 v23:=Tryz.zeroValue206
 t26:=Tryz.underlying9
 a26:=Tryz.isAgg9
 z26:=Tryz.sizeOf9
 v26:=Tryz.zeroValue9
 t27:=Tryz.underlying208
 a27:=Tryz.isAgg208
 z27:=Tryz.sizeOf208
 v27:=Tryz.zeroValue208
 t28:=Tryz.underlying209
 a28:=Tryz.isAgg209
 z28:=Tryz.sizeOf209
 v28:=Tryz.zeroValue209
 t33:=Tryz.underlying97
 a33:=Tryz.isAgg97
 z33:=Tryz.sizeOf97
 v33:=Tryz.zeroValue97 }
def zdf:Go.Shelf.Ren:=⟨fun | 6=>159 | 8=>192 | 9=>193 | 11=>205 | 13=>207 | 12=>206 | 23=>199 | 24=>217 | 14=>209 | 15=>210 | 16=>211 | 17=>212 | 18=>213 | 19=>214 | 20=>195 | 21=>215 | 22=>216 | 25=>218 | 26=>219 | 27=>220 | 28=>221 | 29=>222 | 30=>208 | 31=>223 | n=>n,fun | 26=>9 | 28=>209 | 24=>108 | 0=>0 | 3=>3 | 37=>136 | 48=>134 | 50=>106 | 4=>4 | 40=>245 | 39=>244 | 45=>214 | 5=>5 | 9=>9 | 51=>251 | 55=>254 | 57=>256 | 58=>257 | 33=>97 | n=>n,fun | n=>n⟩
theorem zqb:Go.Proofs.SlLaysZ.n6 Tryz.prog zdf:={
 mixed:=by kernel_rfl
 f6:=⟨Tryz.f159.name,by decide,Tryz.func159.trans (congrArg some (by kernel_rfl))⟩
 f8:=⟨Tryz.f192.name,by decide,Tryz.func192.trans (congrArg some (by kernel_rfl))⟩
 f11:=⟨Tryz.f205.name,by decide,Tryz.func205.trans (congrArg some (by kernel_rfl))⟩
 t0:=Tryz.underlying0
 a0:=Tryz.isAgg0
 z0:=Tryz.sizeOf0
 v0:=Tryz.zeroValue0
 t24:=Tryz.underlying108
 a24:=Tryz.isAgg108
 z24:=Tryz.sizeOf108
 v24:=Tryz.zeroValue108
 t26:=Tryz.underlying9
 a26:=Tryz.isAgg9
 z26:=Tryz.sizeOf9
 v26:=Tryz.zeroValue9
 t28:=Tryz.underlying209
 a28:=Tryz.isAgg209
 z28:=Tryz.sizeOf209
 v28:=Tryz.zeroValue209
 i26:=by kernel_rfl }
def zh0:Go.Shelf.Ren:=⟨fun | 6=>193 | 8=>207 | 9=>206 | 19=>199 | 20=>217 | 21=>209 | 22=>210 | 23=>211 | 24=>212 | 25=>213 | 26=>214 | 27=>195 | 28=>215 | 29=>216 | 36=>218 | 31=>219 | 32=>220 | 37=>221 | 38=>222 | 39=>208 | 41=>223 | n=>n,fun | 27=>108 | 29=>9 | 3=>3 | 32=>136 | 26=>108 | 0=>0 | 44=>134 | 46=>106 | 4=>4 | 36=>245 | 35=>244 | 41=>214 | 5=>5 | 9=>9 | 53=>251 | 57=>254 | 63=>256 | 64=>257 | n=>n,fun | n=>n⟩
theorem zph:Go.Proofs.SlLaysM.n6 Tryz.prog zh0:={
 mixed:=by kernel_rfl
 f6:=⟨Tryz.f193.name,by decide,Tryz.func193.trans (congrArg some (by kernel_rfl))⟩
 f8:=Tryz.func207.trans (congrArg some (by kernel_rfl))
 f9:=⟨Tryz.f206.name,by decide,Tryz.func206.trans (congrArg some (by kernel_rfl))⟩
 f19:=Tryz.func199.trans (congrArg some (by kernel_rfl))
 f20:=Tryz.func217.trans (congrArg some (by kernel_rfl))
 f21:=⟨Tryz.f209.name,by decide,Tryz.func209.trans (congrArg some (by kernel_rfl))⟩
 f22:=⟨Tryz.f210.name,by decide,Tryz.func210.trans (congrArg some (by kernel_rfl))⟩
 f23:=⟨Tryz.f211.name,by decide,Tryz.func211.trans (congrArg some (by kernel_rfl))⟩
 f24:=⟨Tryz.f212.name,by decide,Tryz.func212.trans (congrArg some (by kernel_rfl))⟩
 f25:=⟨Tryz.f213.name,by decide,Tryz.func213.trans (congrArg some (by kernel_rfl))⟩
 f26:=⟨Tryz.f214.name,by decide,Tryz.func214.trans (congrArg some (by kernel_rfl))⟩
 f27:=⟨Tryz.f195.name,by decide,Tryz.func195.trans (congrArg some (by kernel_rfl))⟩
 f28:=⟨Tryz.f215.name,by decide,Tryz.func215.trans (congrArg some (by kernel_rfl))⟩
 f29:=⟨Tryz.f216.name,by decide,Tryz.func216.trans (congrArg some (by kernel_rfl))⟩
 f31:=Tryz.func219.trans (congrArg some (by kernel_rfl))
 f32:=Tryz.func220.trans (congrArg some (by kernel_rfl))
 f36:=⟨Tryz.f218.name,by decide,Tryz.func218.trans (congrArg some (by kernel_rfl))⟩
 f37:=⟨Tryz.f221.name,by decide,Tryz.func221.trans (congrArg some (by kernel_rfl))⟩
 f38:=⟨Tryz.f222.name,by decide,Tryz.func222.trans (congrArg some (by kernel_rfl))⟩
 f39:=⟨Tryz.f208.name,by decide,Tryz.func208.trans (congrArg some (by kernel_rfl))⟩
 f41:=⟨Tryz.f223.name,by decide,Tryz.func223.trans (congrArg some (by kernel_rfl))⟩
 t0:=Tryz.underlying0
 a0:=Tryz.isAgg0
 z0:=Tryz.sizeOf0
 v0:=Tryz.zeroValue0
 t3:=Tryz.underlying3
 a3:=Tryz.isAgg3
 z3:=Tryz.sizeOf3
 v3:=Tryz.zeroValue3
 t4:=Tryz.underlying4
 a4:=Tryz.isAgg4
 z4:=Tryz.sizeOf4
 v4:=Tryz.zeroValue4
 t5:=Tryz.underlying5
 a5:=Tryz.isAgg5
 z5:=Tryz.sizeOf5
 v5:=Tryz.zeroValue5
 t9:=Tryz.underlying9
 a9:=Tryz.isAgg9
 z9:=Tryz.sizeOf9
 v9:=Tryz.zeroValue9
 t26:=Tryz.underlying108
 a26:=Tryz.isAgg108
 z26:=Tryz.sizeOf108
 v26:=Tryz.zeroValue108
 t27:=Tryz.underlying108
 a27:=Tryz.isAgg108
 z27:=Tryz.sizeOf108
 v27:=Tryz.zeroValue108
 t29:=Tryz.underlying9
 a29:=Tryz.isAgg9
 z29:=Tryz.sizeOf9
 v29:=Tryz.zeroValue9
 t32:=Tryz.underlying136
 a32:=Tryz.isAgg136
 z32:=Tryz.sizeOf136
 v32:=Tryz.zeroValue136
 t35:=Tryz.underlying244
 a35:=Tryz.isAgg244
 z35:=Tryz.sizeOf244
 v35:=Tryz.zeroValue244
 t36:=Tryz.underlying245
 a36:=Tryz.isAgg245
 z36:=Tryz.sizeOf245
 v36:=Tryz.zeroValue245
 t41:=Tryz.underlying214
 a41:=Tryz.isAgg214
 z41:=Tryz.sizeOf214
 v41:=Tryz.zeroValue214
 t44:=Tryz.underlying134
 a44:=Tryz.isAgg134
 z44:=Tryz.sizeOf134
 v44:=Tryz.zeroValue134
 t46:=Tryz.underlying106
 a46:=Tryz.isAgg106
 z46:=Tryz.sizeOf106
 v46:=Tryz.zeroValue106
 t53:=Tryz.underlying251
 a53:=Tryz.isAgg251
 z53:=Tryz.sizeOf251
 v53:=Tryz.zeroValue251
 t57:=Tryz.underlying254
 a57:=Tryz.isAgg254
 z57:=Tryz.sizeOf254
 v57:=Tryz.zeroValue254
 t63:=Tryz.underlying256
 a63:=Tryz.isAgg256
 z63:=Tryz.sizeOf256
 v63:=Tryz.zeroValue256
 t64:=Tryz.underlying257
 a64:=Tryz.isAgg257
 z64:=Tryz.sizeOf257
 v64:=Tryz.zeroValue257 }
theorem zky (m:Nat):AnyZ.SortsIn Tryz.prog zdf Fence.wide m:=
 ⟨fun blk off cap ss W hH hblk hsz=>callsIn_wide.2 (AnyM.slices_Sort_string zph blk off cap ss W hH hblk hsz),
  fun p cap W=>callsIn_wide.2 (AnyM.slices_Sort_string_none zph p cap W)⟩
theorem zif (mb:Option Nat) (W:World):Calls Tryz.prog 160 #[.map mb] W fun e w' =>e= .returned (.func (.func 194) #[] #[.pointer (some ⟨W.heap.size,0,none⟩)])/\w' =W.alloc (.cells #[.map mb] 206):=
 callsIn_wide.1 (AnyZ.keys_in zpa Fence.wide 5 trivial rfl mb W)
set_option maxHeartbeats 1000000 in
theorem zej {H:Type} (b nn:Nat) (D0:DataW H) (R:Value->Option (DataW H×List MemPlace)) (w:World) (hown:w.ownsMap Tryz.prog 9 R b nn D0) (hmax:Maps.size D0<=maxLen) (hbytes:Maps.size D0*16<=140737488355328):
 Calls Tryz.prog 159 #[.func (.func 194) #[] #[.pointer (some ⟨w.heap.size,0,none⟩)]] (w.alloc (.cells #[.map (some b)] 206)) fun e w' =>∃ (v:Value) (ss:List (List UInt8)),e= .returned v/\ss.Perm (strKeys D0)/\
  w'.ownsRow (w.alloc (.cells #[.map (some b)] 206)).heap.size 9 1 v ss.length ((ss.mergeSort (fun x y=>decide (x<=y))).map encStr)/\(v= .slice none 0 0↔ss=[])/\Below (w.alloc (.cells #[.map (some b)] 206)).heap.size (w.alloc (.cells #[.map (some b)] 206)) w' :=by
 have hbl:=hown.lt
 have hseq:SeqGives Fence.wide 2 Tryz.prog 194 #[.pointer (some ⟨w.heap.size,0,none⟩)] encStr (fun ss=>ss.Perm (strKeys D0)) (Maps.size D0) (w.alloc (.cells #[.map (some b)] 206)):=
  AnyZ.keys_gives (ρ:=zbu) { zpa with } Fence.wide _ trivial rfl (by omega) w.heap.size b nn D0 _ (by simp) (by simp) (by
   obtain ⟨es,clock,hb,Ft,hs,hD⟩:=hown
   exact ⟨es,clock,(Below.heap_alloc _ _ b hbl).trans hb,Ft,hs,hD⟩)
 exact callsIn_wide.1 (AnyZ.sorted_in zqb Fence.wide 5 trivial trivial trivial trivial rfl (by omega) (zky _) (enters_of Tryz.func193 (by kernel_rfl) rfl) 194 #[.pointer (some ⟨w.heap.size,0,none⟩)] trivial (enters_of Tryz.func194 (by kernel_rfl) rfl) _ _ hmax hbytes _ hseq)
abbrev zpn:TypeId:=206
end Go.Proofs.YtnmkalocbfdecaaGreatDoor
