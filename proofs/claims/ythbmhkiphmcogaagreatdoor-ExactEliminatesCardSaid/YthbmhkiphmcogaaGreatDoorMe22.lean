/- Parts of the proof. -/
import Derived.Ground.GgzProg
import Derived.Ground.SlgmProg
import Derived.Shelf.SlIter.Nil
import Derived.Shelf.SortM.Plain
import Derived.Shelf.SortM.SortNone
import Derived.Test.YthbmhkiphmcogaaGreatDoorMe15
set_option linter.all false
set_option maxHeartbeats 32000000
namespace Go.Proofs.YthbmhkiphmcogaaGreatDoor
open Proofs.Tryz Go.RowKit Go.Maps Go.Sort Go.Shelf
def zik:Go.Shelf.Ren:=⟨fun | 7=>70 | 10=>118 | n=>n,fun | 23=>134 | 26=>9 | 3=>4 | 28=>98 | 0=>0 | 27=>97 | 33=>139 | 4=>4 | n=>n,fun | n=>n⟩
theorem zw6:Go.Proofs.SlLaysZ.n7 Tryz.prog zik:={
 mixed:=by kernel_rfl
 f7:=⟨Tryz.f70.name,by decide,func70.trans (congrArg some (by kernel_rfl))⟩
 f10:=⟨Tryz.f118.name,by decide,func118.trans (congrArg some (by kernel_rfl))⟩
 t0:=underlying0
 a0:=isAgg0
 z0:=sizeOf0
 v0:=zeroValue0
 t4:=underlying4
 a4:=isAgg4
 z4:=sizeOf4
 v4:=zeroValue4
 t23:=underlying134
 a23:=isAgg134
 z23:=sizeOf134
 v23:=zeroValue134
 t26:=underlying9
 a26:=isAgg9
 z26:=sizeOf9
 v26:=zeroValue9
 t27:=underlying97
 a27:=isAgg97
 z27:=sizeOf97
 v27:=zeroValue97
 t28:=underlying98
 a28:=isAgg98
 z28:=sizeOf98
 v28:=zeroValue98
 t33:=underlying139
 a33:=isAgg139
 z33:=sizeOf139
 v33:=zeroValue139 }
def zgr:Go.Shelf.Ren:=⟨fun | 6=>41 | 8=>74 | 9=>75 | 11=>124 | 13=>126 | 12=>125 | 23=>160 | 24=>161 | 14=>152 | 15=>153 | 16=>154 | 17=>155 | 18=>156 | 19=>157 | 20=>146 | 21=>158 | 22=>159 | 25=>177 | 26=>178 | 27=>179 | 28=>180 | 29=>181 | 30=>175 | 31=>185 | n=>n,fun | 26=>9 | 28=>98 | 24=>72 | 0=>0 | 3=>3 | 37=>181 | 48=>184 | 50=>143 | 4=>4 | 40=>205 | 39=>204 | 45=>165 | 5=>5 | 9=>9 | 51=>220 | 55=>223 | 57=>231 | 58=>232 | 33=>139 | n=>n,fun | n=>n⟩
theorem zw2:Go.Proofs.SlLaysZ.n6 Tryz.prog zgr:={
 mixed:=by kernel_rfl
 f6:=⟨Tryz.f41.name,by decide,func41.trans (congrArg some (by kernel_rfl))⟩
 f8:=⟨Tryz.f74.name,by decide,func74.trans (congrArg some (by kernel_rfl))⟩
 f11:=⟨Tryz.f124.name,by decide,func124.trans (congrArg some (by kernel_rfl))⟩
 t0:=underlying0
 a0:=isAgg0
 z0:=sizeOf0
 v0:=zeroValue0
 t24:=underlying72
 a24:=isAgg72
 z24:=sizeOf72
 v24:=zeroValue72
 t26:=underlying9
 a26:=isAgg9
 z26:=sizeOf9
 v26:=zeroValue9
 t28:=underlying98
 a28:=isAgg98
 z28:=sizeOf98
 v28:=zeroValue98
 i26:=by kernel_rfl }
def zpf:Go.Shelf.Ren:=⟨fun | 6=>75 | 8=>126 | 9=>125 | 19=>160 | 20=>161 | 21=>152 | 22=>153 | 23=>154 | 24=>155 | 25=>156 | 26=>157 | 27=>146 | 28=>158 | 29=>159 | 36=>177 | 31=>178 | 32=>179 | 37=>180 | 38=>181 | 39=>175 | 41=>185 | n=>n,fun | 27=>72 | 29=>9 | 3=>3 | 32=>181 | 26=>72 | 0=>0 | 44=>184 | 46=>143 | 4=>4 | 36=>205 | 35=>204 | 41=>165 | 5=>5 | 9=>9 | 53=>220 | 57=>223 | 63=>231 | 64=>232 | n=>n,fun | n=>n⟩
theorem zwt:Go.Proofs.SlLaysM.n6 Tryz.prog zpf:={
 mixed:=by kernel_rfl
 f6:=⟨Tryz.f75.name,by decide,func75.trans (congrArg some (by kernel_rfl))⟩
 f8:=func126.trans (congrArg some (by kernel_rfl))
 f9:=⟨Tryz.f125.name,by decide,func125.trans (congrArg some (by kernel_rfl))⟩
 f19:=func160.trans (congrArg some (by kernel_rfl))
 f20:=func161.trans (congrArg some (by kernel_rfl))
 f21:=⟨Tryz.f152.name,by decide,func152.trans (congrArg some (by kernel_rfl))⟩
 f22:=⟨Tryz.f153.name,by decide,func153.trans (congrArg some (by kernel_rfl))⟩
 f23:=⟨Tryz.f154.name,by decide,func154.trans (congrArg some (by kernel_rfl))⟩
 f24:=⟨Tryz.f155.name,by decide,func155.trans (congrArg some (by kernel_rfl))⟩
 f25:=⟨Tryz.f156.name,by decide,func156.trans (congrArg some (by kernel_rfl))⟩
 f26:=⟨Tryz.f157.name,by decide,func157.trans (congrArg some (by kernel_rfl))⟩
 f27:=⟨Tryz.f146.name,by decide,func146.trans (congrArg some (by kernel_rfl))⟩
 f28:=⟨Tryz.f158.name,by decide,func158.trans (congrArg some (by kernel_rfl))⟩
 f29:=⟨Tryz.f159.name,by decide,func159.trans (congrArg some (by kernel_rfl))⟩
 f31:=func178.trans (congrArg some (by kernel_rfl))
 f32:=func179.trans (congrArg some (by kernel_rfl))
 f36:=⟨Tryz.f177.name,by decide,func177.trans (congrArg some (by kernel_rfl))⟩
 f37:=⟨Tryz.f180.name,by decide,func180.trans (congrArg some (by kernel_rfl))⟩
 f38:=⟨Tryz.f181.name,by decide,func181.trans (congrArg some (by kernel_rfl))⟩
 f39:=⟨Tryz.f175.name,by decide,func175.trans (congrArg some (by kernel_rfl))⟩
 f41:=⟨Tryz.f185.name,by decide,func185.trans (congrArg some (by kernel_rfl))⟩
 t0:=underlying0
 a0:=isAgg0
 z0:=sizeOf0
 v0:=zeroValue0
 t3:=underlying3
 a3:=isAgg3
 z3:=sizeOf3
 v3:=zeroValue3
 t4:=underlying4
 a4:=isAgg4
 z4:=sizeOf4
 v4:=zeroValue4
 t5:=underlying5
 a5:=isAgg5
 z5:=sizeOf5
 v5:=zeroValue5
 t9:=underlying9
 a9:=isAgg9
 z9:=sizeOf9
 v9:=zeroValue9
 t26:=underlying72
 a26:=isAgg72
 z26:=sizeOf72
 v26:=zeroValue72
 t27:=underlying72
 a27:=isAgg72
 z27:=sizeOf72
 v27:=zeroValue72
 t29:=underlying9
 a29:=isAgg9
 z29:=sizeOf9
 v29:=zeroValue9
 t32:=underlying181
 a32:=isAgg181
 z32:=sizeOf181
 v32:=zeroValue181
 t35:=underlying204
 a35:=isAgg204
 z35:=sizeOf204
 v35:=zeroValue204
 t36:=underlying205
 a36:=isAgg205
 z36:=sizeOf205
 v36:=zeroValue205
 t41:=underlying165
 a41:=isAgg165
 z41:=sizeOf165
 v41:=zeroValue165
 t44:=underlying184
 a44:=isAgg184
 z44:=sizeOf184
 v44:=zeroValue184
 t46:=underlying143
 a46:=isAgg143
 z46:=sizeOf143
 v46:=zeroValue143
 t53:=underlying220
 a53:=isAgg220
 z53:=sizeOf220
 v53:=zeroValue220
 t57:=underlying223
 a57:=isAgg223
 z57:=sizeOf223
 v57:=zeroValue223
 t63:=underlying231
 a63:=isAgg231
 z63:=sizeOf231
 v63:=zeroValue231
 t64:=underlying232
 a64:=isAgg232
 z64:=sizeOf232
 v64:=zeroValue232 }
theorem zk2 (m:Nat):AnyZ.SortsIn Tryz.prog zgr Fence.wide m:=
 ⟨fun blk off cap ss W hH hblk hsz=>callsIn_wide.2 (AnyM.slices_Sort_string zwt blk off cap ss W hH hblk hsz),
  fun p cap W=>callsIn_wide.2 (AnyM.slices_Sort_string_none zwt p cap W)⟩
theorem zqf (mb:Option Nat) (W:World):Calls Tryz.prog 70 #[.map mb] W fun e w' =>e= .returned (.func (.func 118) #[] #[.pointer (some ⟨W.heap.size,0,none⟩)])/\w' =W.alloc (.cells #[.map mb] 134):=
 callsIn_wide.1 (AnyZ.keys_in zw6 Fence.wide 5 trivial rfl mb W)
theorem zjq {H:Type} (b nn:Nat) (D0:DataW H) (R:Value->Option (DataW H×List MemPlace)) (w:World) (hown:w.ownsMap Tryz.prog 9 R b nn D0) (hmax:Maps.size D0<=maxLen) (hbytes:Maps.size D0*16<=140737488355328):
 Calls Tryz.prog 41 #[.func (.func 118) #[] #[.pointer (some ⟨w.heap.size,0,none⟩)]] (w.alloc (.cells #[.map (some b)] 134)) fun e w' =>∃ (v:Value) (ss:List (List UInt8)),e= .returned v/\ss.Perm (strKeys D0)/\
  w'.ownsRow (w.alloc (.cells #[.map (some b)] 134)).heap.size 9 1 v ss.length ((ss.mergeSort (fun x y=>decide (x<=y))).map encStr)/\(v= .slice none 0 0↔ss=[])/\Below (w.alloc (.cells #[.map (some b)] 134)).heap.size (w.alloc (.cells #[.map (some b)] 134)) w' :=by
 have j:=hown.lt
 have r:SeqGives Fence.wide 2 Tryz.prog 118 #[.pointer (some ⟨w.heap.size,0,none⟩)] encStr (fun ss=>ss.Perm (strKeys D0)) (Maps.size D0) (w.alloc (.cells #[.map (some b)] 134)):=
  AnyZ.keys_gives (ρ:=zik) { zw6 with } Fence.wide _ trivial rfl (by omega) w.heap.size b nn D0 _ (by simp) (by simp) (by
   obtain ⟨u,l,hb,m,B,z⟩:=hown
   exact ⟨u,l,(Below.heap_alloc _ _ b j).trans hb,m,B,z⟩)
 exact callsIn_wide.1 (AnyZ.sorted_in zw2 Fence.wide 5 trivial trivial trivial trivial rfl (by omega) (zk2 _) (enters_of func75 (by kernel_rfl) rfl) 118 #[.pointer (some ⟨w.heap.size,0,none⟩)] trivial (enters_of func118 (by kernel_rfl) rfl) _ _ hmax hbytes _ r)
abbrev zug:TypeId:=134
def zin:Go.Shelf.Ren:=⟨fun | 7=>42 | 10=>76 | n=>n,fun | 23=>92 | 26=>9 | 3=>55 | 28=>98 | 0=>0 | 27=>97 | 33=>139 | 4=>4 | n=>n,fun | n=>n⟩
theorem zwh:Go.Proofs.SlLaysZ.n7 Tryz.prog zin:={
 mixed:=by kernel_rfl
 f7:=⟨Tryz.f42.name,by decide,func42.trans (congrArg some (by kernel_rfl))⟩
 f10:=⟨Tryz.f76.name,by decide,func76.trans (congrArg some (by kernel_rfl))⟩
 t0:=underlying0
 a0:=isAgg0
 z0:=sizeOf0
 v0:=zeroValue0
 t4:=underlying4
 a4:=isAgg4
 z4:=sizeOf4
 v4:=zeroValue4
 t23:=underlying92
 a23:=isAgg92
 z23:=sizeOf92
 v23:=zeroValue92
 t26:=underlying9
 a26:=isAgg9
 z26:=sizeOf9
 v26:=zeroValue9
 t27:=underlying97
 a27:=isAgg97
 z27:=sizeOf97
 v27:=zeroValue97
 t28:=underlying98
 a28:=isAgg98
 z28:=sizeOf98
 v28:=zeroValue98
 t33:=underlying139
 a33:=isAgg139
 z33:=sizeOf139
 v33:=zeroValue139 }
theorem zmj (mb:Option Nat) (W:World):Calls Tryz.prog 42 #[.map mb] W fun e w' =>e= .returned (.func (.func 76) #[] #[.pointer (some ⟨W.heap.size,0,none⟩)])/\w' =W.alloc (.cells #[.map mb] 92):=
 callsIn_wide.1 (AnyZ.keys_in zwh Fence.wide 5 trivial rfl mb W)
theorem zhg {H:Type} (b nn:Nat) (D0:DataW H) (R:Value->Option (DataW H×List MemPlace)) (w:World) (hown:w.ownsMap Tryz.prog 9 R b nn D0) (hmax:Maps.size D0<=maxLen) (hbytes:Maps.size D0*16<=140737488355328):
 Calls Tryz.prog 41 #[.func (.func 76) #[] #[.pointer (some ⟨w.heap.size,0,none⟩)]] (w.alloc (.cells #[.map (some b)] 92)) fun e w' =>∃ (v:Value) (ss:List (List UInt8)),e= .returned v/\ss.Perm (strKeys D0)/\
  w'.ownsRow (w.alloc (.cells #[.map (some b)] 92)).heap.size 9 1 v ss.length ((ss.mergeSort (fun x y=>decide (x<=y))).map encStr)/\(v= .slice none 0 0↔ss=[])/\Below (w.alloc (.cells #[.map (some b)] 92)).heap.size (w.alloc (.cells #[.map (some b)] 92)) w' :=by
 have j:=hown.lt
 have r:SeqGives Fence.wide 2 Tryz.prog 76 #[.pointer (some ⟨w.heap.size,0,none⟩)] encStr (fun ss=>ss.Perm (strKeys D0)) (Maps.size D0) (w.alloc (.cells #[.map (some b)] 92)):=
  AnyZ.keys_gives (ρ:=zin) { zwh with } Fence.wide _ trivial rfl (by omega) w.heap.size b nn D0 _ (by simp) (by simp) (by
   obtain ⟨u,l,hb,m,B,z⟩:=hown
   exact ⟨u,l,(Below.heap_alloc _ _ b j).trans hb,m,B,z⟩)
 exact callsIn_wide.1 (AnyZ.sorted_in zw2 Fence.wide 5 trivial trivial trivial trivial rfl (by omega) (zk2 _) (enters_of func75 (by kernel_rfl) rfl) 76 #[.pointer (some ⟨w.heap.size,0,none⟩)] trivial (enters_of func76 (by kernel_rfl) rfl) _ _ hmax hbytes _ r)
abbrev zta:TypeId:=92
end Go.Proofs.YthbmhkiphmcogaaGreatDoor
