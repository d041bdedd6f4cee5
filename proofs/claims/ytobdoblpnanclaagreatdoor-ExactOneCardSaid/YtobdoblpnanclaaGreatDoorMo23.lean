/- Parts of the proof. -/
import Derived.Ground.GgzProg
import Derived.Ground.SlgmProg
import Derived.Shelf.SlIter.Nil
import Derived.Shelf.SortM.Plain
import Derived.Shelf.SortM.SortNone
import Derived.Test.YtobdoblpnanclaaGreatDoorMo16
set_option linter.all false
namespace Go.Proofs.YtobdoblpnanclaaGreatDoor
open Proofs.Tryz Go.RowKit Go.Maps Go.Sort Go.Shelf
def zgj:Go.Shelf.Ren:=⟨fun | 7=>70 | 10=>111 | n=>n,fun | 23=>133 | 26=>9 | 3=>4 | 28=>136 | 0=>0 | 27=>135 | 33=>108 | 4=>4 | n=>n,fun | n=>n⟩
theorem zwk:Go.Proofs.SlLaysZ.n7 prog zgj:={
 mixed:=by kernel_rfl
 f7:=⟨Tryz.f70.name,by decide,func70.trans (congrArg some (by kernel_rfl))⟩
 f10:=⟨Tryz.f111.name,by decide,func111.trans (congrArg some (by kernel_rfl))⟩
 t0:=underlying0
 a0:=isAgg0
 z0:=sizeOf0
 v0:=zeroValue0
 t4:=underlying4
 a4:=isAgg4
 z4:=sizeOf4
 v4:=zeroValue4
 t23:=underlying133
 a23:=isAgg133
 z23:=sizeOf133
 v23:=zeroValue133
 t26:=underlying9
 a26:=isAgg9
 z26:=sizeOf9
 v26:=zeroValue9
 t27:=underlying135
 a27:=isAgg135
 z27:=sizeOf135
 v27:=zeroValue135
 t28:=underlying136
 a28:=isAgg136
 z28:=sizeOf136
 v28:=zeroValue136
 t33:=underlying108
 a33:=isAgg108
 z33:=sizeOf108
 v33:=zeroValue108 }
def zgm:Go.Shelf.Ren:=⟨fun | 6=>69 | 8=>109 | 9=>110 | 11=>127 | 13=>129 | 12=>128 | 23=>151 | 24=>152 | 14=>143 | 15=>144 | 16=>145 | 17=>146 | 18=>147 | 19=>148 | 20=>112 | 21=>149 | 22=>150 | 25=>156 | 26=>157 | 27=>158 | 28=>159 | 29=>160 | 30=>120 | 31=>161 | n=>n,fun | 26=>9 | 28=>136 | 24=>52 | 0=>0 | 3=>3 | 37=>168 | 48=>158 | 50=>149 | 4=>4 | 40=>200 | 39=>199 | 45=>140 | 5=>5 | 9=>9 | 51=>212 | 55=>215 | 57=>217 | 58=>218 | 33=>108 | n=>n,fun | n=>n⟩
theorem zw4:Go.Proofs.SlLaysZ.n6 prog zgm:={
 mixed:=by kernel_rfl
 f6:=⟨Tryz.f69.name,by decide,func69.trans (congrArg some (by kernel_rfl))⟩
 f8:=⟨Tryz.f109.name,by decide,func109.trans (congrArg some (by kernel_rfl))⟩
 f11:=⟨Tryz.f127.name,by decide,func127.trans (congrArg some (by kernel_rfl))⟩
 t0:=underlying0
 a0:=isAgg0
 z0:=sizeOf0
 v0:=zeroValue0
 t24:=underlying52
 a24:=isAgg52
 z24:=sizeOf52
 v24:=zeroValue52
 t26:=underlying9
 a26:=isAgg9
 z26:=sizeOf9
 v26:=zeroValue9
 t28:=underlying136
 a28:=isAgg136
 z28:=sizeOf136
 v28:=zeroValue136
 i26:=by kernel_rfl }
def zp4:Go.Shelf.Ren:=⟨fun | 6=>110 | 8=>129 | 9=>128 | 19=>151 | 20=>152 | 21=>143 | 22=>144 | 23=>145 | 24=>146 | 25=>147 | 26=>148 | 27=>112 | 28=>149 | 29=>150 | 36=>156 | 31=>157 | 32=>158 | 37=>159 | 38=>160 | 39=>120 | 41=>161 | n=>n,fun | 27=>52 | 29=>9 | 3=>3 | 32=>168 | 26=>52 | 0=>0 | 44=>158 | 46=>149 | 4=>4 | 36=>200 | 35=>199 | 41=>140 | 5=>5 | 9=>9 | 53=>212 | 57=>215 | 63=>217 | 64=>218 | n=>n,fun | n=>n⟩
theorem zwi:Go.Proofs.SlLaysM.n6 prog zp4:={
 mixed:=by kernel_rfl
 f6:=⟨Tryz.f110.name,by decide,func110.trans (congrArg some (by kernel_rfl))⟩
 f8:=func129.trans (congrArg some (by kernel_rfl))
 f9:=⟨Tryz.f128.name,by decide,func128.trans (congrArg some (by kernel_rfl))⟩
 f19:=func151.trans (congrArg some (by kernel_rfl))
 f20:=func152.trans (congrArg some (by kernel_rfl))
 f21:=⟨Tryz.f143.name,by decide,func143.trans (congrArg some (by kernel_rfl))⟩
 f22:=⟨Tryz.f144.name,by decide,func144.trans (congrArg some (by kernel_rfl))⟩
 f23:=⟨Tryz.f145.name,by decide,func145.trans (congrArg some (by kernel_rfl))⟩
 f24:=⟨Tryz.f146.name,by decide,func146.trans (congrArg some (by kernel_rfl))⟩
 f25:=⟨Tryz.f147.name,by decide,func147.trans (congrArg some (by kernel_rfl))⟩
 f26:=⟨Tryz.f148.name,by decide,func148.trans (congrArg some (by kernel_rfl))⟩
 f27:=⟨Tryz.f112.name,by decide,func112.trans (congrArg some (by kernel_rfl))⟩
 f28:=⟨Tryz.f149.name,by decide,func149.trans (congrArg some (by kernel_rfl))⟩
 f29:=⟨Tryz.f150.name,by decide,func150.trans (congrArg some (by kernel_rfl))⟩
 f31:=func157.trans (congrArg some (by kernel_rfl))
 f32:=func158.trans (congrArg some (by kernel_rfl))
 f36:=⟨Tryz.f156.name,by decide,func156.trans (congrArg some (by kernel_rfl))⟩
 f37:=⟨Tryz.f159.name,by decide,func159.trans (congrArg some (by kernel_rfl))⟩
 f38:=⟨Tryz.f160.name,by decide,func160.trans (congrArg some (by kernel_rfl))⟩
 f39:=⟨Tryz.f120.name,by decide,func120.trans (congrArg some (by kernel_rfl))⟩
 f41:=⟨Tryz.f161.name,by decide,func161.trans (congrArg some (by kernel_rfl))⟩
 t0:=underlying0
 a0:=isAgg0
 z0:=sizeOf0
 v0:=zeroValue0
 t3:=underlying3
 a3:=isAgg3
 z3:=sizeOf3
 v3:=zeroValue3
 t4:=underlying4
 a4:=isAgg4
 z4:=sizeOf4
 v4:=zeroValue4
 t5:=underlying5
 a5:=isAgg5
 z5:=sizeOf5
 v5:=zeroValue5
 t9:=underlying9
 a9:=isAgg9
 z9:=sizeOf9
 v9:=zeroValue9
 t26:=underlying52
 a26:=isAgg52
 z26:=sizeOf52
 v26:=zeroValue52
 t27:=underlying52
 a27:=isAgg52
 z27:=sizeOf52
 v27:=zeroValue52
 t29:=underlying9
 a29:=isAgg9
 z29:=sizeOf9
 v29:=zeroValue9
 t32:=underlying168
 a32:=isAgg168
 z32:=sizeOf168
 v32:=zeroValue168
 t35:=underlying199
 a35:=isAgg199
 z35:=sizeOf199
 v35:=zeroValue199
 t36:=underlying200
 a36:=isAgg200
 z36:=sizeOf200
 v36:=zeroValue200
 t41:=underlying140
 a41:=isAgg140
 z41:=sizeOf140
 v41:=zeroValue140
 t44:=underlying158
 a44:=isAgg158
 z44:=sizeOf158
 v44:=zeroValue158
 t46:=underlying149
 a46:=isAgg149
 z46:=sizeOf149
 v46:=zeroValue149
 t53:=underlying212
 a53:=isAgg212
 z53:=sizeOf212
 v53:=zeroValue212
 t57:=underlying215
 a57:=isAgg215
 z57:=sizeOf215
 v57:=zeroValue215
 t63:=underlying217
 a63:=isAgg217
 z63:=sizeOf217
 v63:=zeroValue217
 t64:=underlying218
 a64:=isAgg218
 z64:=sizeOf218
 v64:=zeroValue218 }
theorem zri (m:Nat):AnyZ.SortsIn prog zgm Fence.wide m:=
 ⟨fun blk off cap ss W hH hblk hsz=>callsIn_wide.2 (AnyM.slices_Sort_string zwi blk off cap ss W hH hblk hsz),
  fun p cap W=>callsIn_wide.2 (AnyM.slices_Sort_string_none zwi p cap W)⟩
theorem zod (mb:Option Nat) (W:World):Calls prog 70 #[.map mb] W fun e w' =>e= .returned (.func (.func 111) #[] #[.pointer (some ⟨W.heap.size,0,none⟩)])/\w' =W.alloc (.cells #[.map mb] 133):=
 callsIn_wide.1 (AnyZ.keys_in zwk Fence.wide 5 trivial rfl mb W)
set_option maxHeartbeats 1000000 in
theorem zjt {H:Type} (b nn:Nat) (D0:DataW H) (R:Value->Option (DataW H×List MemPlace)) (w:World) (hown:w.ownsMap prog 9 R b nn D0) (hmax:Maps.size D0<=maxLen) (hbytes:Maps.size D0*16<=140737488355328):
 Calls prog 69 #[.func (.func 111) #[] #[.pointer (some ⟨w.heap.size,0,none⟩)]] (w.alloc (.cells #[.map (some b)] 133)) fun e w' =>∃ (v:Value) (ss:List (List UInt8)),e= .returned v/\ss.Perm (strKeys D0)/\
  w'.ownsRow (w.alloc (.cells #[.map (some b)] 133)).heap.size 9 1 v ss.length ((ss.mergeSort (fun x y=>decide (x<=y))).map encStr)/\(v= .slice none 0 0↔ss=[])/\Below (w.alloc (.cells #[.map (some b)] 133)).heap.size (w.alloc (.cells #[.map (some b)] 133)) w' :=by
 have m:=hown.lt
 have l:SeqGives Fence.wide 2 prog 111 #[.pointer (some ⟨w.heap.size,0,none⟩)] encStr (fun ss=>ss.Perm (strKeys D0)) (Maps.size D0) (w.alloc (.cells #[.map (some b)] 133)):=
  AnyZ.keys_gives (ρ:=zgj) { zwk with } Fence.wide _ trivial rfl (by omega) w.heap.size b nn D0 _ (by simp) (by simp) (by
   obtain ⟨r,u,hb,j,z,B⟩:=hown
   exact ⟨r,u,(Below.heap_alloc _ _ b m).trans hb,j,z,B⟩)
 exact callsIn_wide.1 (AnyZ.sorted_in zw4 Fence.wide 5 trivial trivial trivial trivial rfl (by omega) (zri _) (enters_of func110 (by kernel_rfl) rfl) 111 #[.pointer (some ⟨w.heap.size,0,none⟩)] trivial (enters_of func111 (by kernel_rfl) rfl) _ _ hmax hbytes _ l)
abbrev zul:TypeId:=133
end Go.Proofs.YtobdoblpnanclaaGreatDoor
