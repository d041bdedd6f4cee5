/- Parts of the proof. -/
import Derived.Ground.GgzProg
import Derived.Ground.SlgmProg
import Derived.Shelf.SlIter.Nil
import Derived.Shelf.SortM.Plain
import Derived.Shelf.SortM.SortNone
import Derived.Test.YtofmkndhocinmaaGreatDoorMs16
set_option linter.all false
set_option maxHeartbeats 32000000
namespace Go.Proofs.YtofmkndhocinmaaGreatDoor
open Proofs.Tryz Go.RowKit Go.Maps Go.Sort Go.Shelf
def ze2:Go.Shelf.Ren:=⟨fun | 7=>80 | 10=>119 | n=>n,fun | 23=>140 | 26=>9 | 3=>4 | 28=>106 | 0=>0 | 27=>105 | 33=>109 | 4=>4 | n=>n,fun | n=>n⟩
theorem zuw:Go.Proofs.SlLaysZ.n7 prog ze2:={
 mixed:=by kernel_rfl
 f7:=⟨Tryz.f80.name,by decide,func80.trans (congrArg some (by kernel_rfl))⟩
 f10:=⟨Tryz.f119.name,by decide,func119.trans (congrArg some (by kernel_rfl))⟩
 t0:=underlying0
 a0:=isAgg0
 z0:=sizeOf0
 v0:=zeroValue0
 t4:=underlying4
 a4:=isAgg4
 z4:=sizeOf4
 v4:=zeroValue4
 t23:=underlying140
 a23:=isAgg140
 z23:=sizeOf140
 v23:=zeroValue140
 t26:=underlying9
 a26:=isAgg9
 z26:=sizeOf9
 v26:=zeroValue9
 t27:=underlying105
 a27:=isAgg105
 z27:=sizeOf105
 v27:=zeroValue105
 t28:=underlying106
 a28:=isAgg106
 z28:=sizeOf106
 v28:=zeroValue106
 t33:=underlying109
 a33:=isAgg109
 z33:=sizeOf109
 v33:=zeroValue109 }
def ze6:Go.Shelf.Ren:=⟨fun | 6=>50 | 8=>83 | 9=>84 | 11=>120 | 13=>122 | 12=>121 | 23=>146 | 24=>147 | 14=>138 | 15=>139 | 16=>140 | 17=>141 | 18=>142 | 19=>143 | 20=>136 | 21=>144 | 22=>145 | 25=>161 | 26=>162 | 27=>163 | 28=>164 | 29=>165 | 30=>126 | 31=>169 | n=>n,fun | 26=>9 | 28=>106 | 24=>82 | 0=>0 | 3=>3 | 37=>174 | 48=>152 | 50=>151 | 4=>4 | 40=>193 | 39=>192 | 45=>147 | 5=>5 | 9=>9 | 51=>208 | 55=>211 | 57=>219 | 58=>220 | 33=>109 | n=>n,fun | n=>n⟩
theorem zud:Go.Proofs.SlLaysZ.n6 prog ze6:={
 mixed:=by kernel_rfl
 f6:=⟨Tryz.f50.name,by decide,func50.trans (congrArg some (by kernel_rfl))⟩
 f8:=⟨Tryz.f83.name,by decide,func83.trans (congrArg some (by kernel_rfl))⟩
 f11:=⟨Tryz.f120.name,by decide,func120.trans (congrArg some (by kernel_rfl))⟩
 t0:=underlying0
 a0:=isAgg0
 z0:=sizeOf0
 v0:=zeroValue0
 t24:=underlying82
 a24:=isAgg82
 z24:=sizeOf82
 v24:=zeroValue82
 t26:=underlying9
 a26:=isAgg9
 z26:=sizeOf9
 v26:=zeroValue9
 t28:=underlying106
 a28:=isAgg106
 z28:=sizeOf106
 v28:=zeroValue106
 i26:=by kernel_rfl }
def zoj:Go.Shelf.Ren:=⟨fun | 6=>84 | 8=>122 | 9=>121 | 19=>146 | 20=>147 | 21=>138 | 22=>139 | 23=>140 | 24=>141 | 25=>142 | 26=>143 | 27=>136 | 28=>144 | 29=>145 | 36=>161 | 31=>162 | 32=>163 | 37=>164 | 38=>165 | 39=>126 | 41=>169 | n=>n,fun | 27=>82 | 29=>9 | 3=>3 | 32=>174 | 26=>82 | 0=>0 | 44=>152 | 46=>151 | 4=>4 | 36=>193 | 35=>192 | 41=>147 | 5=>5 | 9=>9 | 53=>208 | 57=>211 | 63=>219 | 64=>220 | n=>n,fun | n=>n⟩
theorem zuu:Go.Proofs.SlLaysM.n6 prog zoj:={
 mixed:=by kernel_rfl
 f6:=⟨Tryz.f84.name,by decide,func84.trans (congrArg some (by kernel_rfl))⟩
 f8:=func122.trans (congrArg some (by kernel_rfl))
 f9:=⟨Tryz.f121.name,by decide,func121.trans (congrArg some (by kernel_rfl))⟩
 f19:=func146.trans (congrArg some (by kernel_rfl))
 f20:=func147.trans (congrArg some (by kernel_rfl))
 f21:=⟨Tryz.f138.name,by decide,func138.trans (congrArg some (by kernel_rfl))⟩
 f22:=⟨Tryz.f139.name,by decide,func139.trans (congrArg some (by kernel_rfl))⟩
 f23:=⟨Tryz.f140.name,by decide,func140.trans (congrArg some (by kernel_rfl))⟩
 f24:=⟨Tryz.f141.name,by decide,func141.trans (congrArg some (by kernel_rfl))⟩
 f25:=⟨Tryz.f142.name,by decide,func142.trans (congrArg some (by kernel_rfl))⟩
 f26:=⟨Tryz.f143.name,by decide,func143.trans (congrArg some (by kernel_rfl))⟩
 f27:=⟨Tryz.f136.name,by decide,func136.trans (congrArg some (by kernel_rfl))⟩
 f28:=⟨Tryz.f144.name,by decide,func144.trans (congrArg some (by kernel_rfl))⟩
 f29:=⟨Tryz.f145.name,by decide,func145.trans (congrArg some (by kernel_rfl))⟩
 f31:=func162.trans (congrArg some (by kernel_rfl))
 f32:=func163.trans (congrArg some (by kernel_rfl))
 f36:=⟨Tryz.f161.name,by decide,func161.trans (congrArg some (by kernel_rfl))⟩
 f37:=⟨Tryz.f164.name,by decide,func164.trans (congrArg some (by kernel_rfl))⟩
 f38:=⟨Tryz.f165.name,by decide,func165.trans (congrArg some (by kernel_rfl))⟩
 f39:=⟨Tryz.f126.name,by decide,func126.trans (congrArg some (by kernel_rfl))⟩
 f41:=⟨Tryz.f169.name,by decide,func169.trans (congrArg some (by kernel_rfl))⟩
 t0:=underlying0
 a0:=isAgg0
 z0:=sizeOf0
 v0:=zeroValue0
 t3:=underlying3
 a3:=isAgg3
 z3:=sizeOf3
 v3:=zeroValue3
 t4:=underlying4
 a4:=isAgg4
 z4:=sizeOf4
 v4:=zeroValue4
 t5:=underlying5
 a5:=isAgg5
 z5:=sizeOf5
 v5:=zeroValue5
 t9:=underlying9
 a9:=isAgg9
 z9:=sizeOf9
 v9:=zeroValue9
 t26:=underlying82
 a26:=isAgg82
 z26:=sizeOf82
 v26:=zeroValue82
 t27:=underlying82
 a27:=isAgg82
 z27:=sizeOf82
 v27:=zeroValue82
 t29:=underlying9
 a29:=isAgg9
 z29:=sizeOf9
 v29:=zeroValue9
 t32:=underlying174
 a32:=isAgg174
 z32:=sizeOf174
 v32:=zeroValue174
 t35:=underlying192
 a35:=isAgg192
 z35:=sizeOf192
 v35:=zeroValue192
 t36:=underlying193
 a36:=isAgg193
 z36:=sizeOf193
 v36:=zeroValue193
 t41:=underlying147
 a41:=isAgg147
 z41:=sizeOf147
 v41:=zeroValue147
 t44:=underlying152
 a44:=isAgg152
 z44:=sizeOf152
 v44:=zeroValue152
 t46:=underlying151
 a46:=isAgg151
 z46:=sizeOf151
 v46:=zeroValue151
 t53:=underlying208
 a53:=isAgg208
 z53:=sizeOf208
 v53:=zeroValue208
 t57:=underlying211
 a57:=isAgg211
 z57:=sizeOf211
 v57:=zeroValue211
 t63:=underlying219
 a63:=isAgg219
 z63:=sizeOf219
 v63:=zeroValue219
 t64:=underlying220
 a64:=isAgg220
 z64:=sizeOf220
 v64:=zeroValue220 }
theorem zjf (m:Nat):AnyZ.SortsIn prog ze6 Fence.wide m:=
 ⟨fun blk off cap ss W hH hblk hsz=>callsIn_wide.2 (AnyM.slices_Sort_string zuu blk off cap ss W hH hblk hsz),
  fun p cap W=>callsIn_wide.2 (AnyM.slices_Sort_string_none zuu p cap W)⟩
theorem zm1 (mb:Option Nat) (W:World):Calls prog 80 #[.map mb] W fun e w' =>e= .returned (.func (.func 119) #[] #[.pointer (some ⟨W.heap.size,0,none⟩)])/\w' =W.alloc (.cells #[.map mb] 140):=
 callsIn_wide.1 (AnyZ.keys_in zuw Fence.wide 5 trivial rfl mb W)
theorem zib {H:Type} (b nn:Nat) (D0:DataW H) (R:Value->Option (DataW H×List MemPlace)) (w:World) (hown:w.ownsMap prog 9 R b nn D0) (hmax:Maps.size D0<=maxLen) (hbytes:Maps.size D0*16<=140737488355328):
 Calls prog 50 #[.func (.func 119) #[] #[.pointer (some ⟨w.heap.size,0,none⟩)]] (w.alloc (.cells #[.map (some b)] 140)) fun e w' =>∃ (v:Value) (ss:List (List UInt8)),e= .returned v/\ss.Perm (strKeys D0)/\
  w'.ownsRow (w.alloc (.cells #[.map (some b)] 140)).heap.size 9 1 v ss.length ((ss.mergeSort (fun x y=>decide (x<=y))).map encStr)/\(v= .slice none 0 0↔ss=[])/\Below (w.alloc (.cells #[.map (some b)] 140)).heap.size (w.alloc (.cells #[.map (some b)] 140)) w' :=by
 have m:=hown.lt
 have l:SeqGives Fence.wide 2 prog 119 #[.pointer (some ⟨w.heap.size,0,none⟩)] encStr (fun ss=>ss.Perm (strKeys D0)) (Maps.size D0) (w.alloc (.cells #[.map (some b)] 140)):=
  AnyZ.keys_gives (ρ:=ze2) { zuw with } Fence.wide _ trivial rfl (by omega) w.heap.size b nn D0 _ (by simp) (by simp) (by
   obtain ⟨r,u,hb,j,z,B⟩:=hown
   exact ⟨r,u,(Below.heap_alloc _ _ b m).trans hb,j,z,B⟩)
 exact callsIn_wide.1 (AnyZ.sorted_in zud Fence.wide 5 trivial trivial trivial trivial rfl (by omega) (zjf _) (enters_of func84 (by kernel_rfl) rfl) 119 #[.pointer (some ⟨w.heap.size,0,none⟩)] trivial (enters_of func119 (by kernel_rfl) rfl) _ _ hmax hbytes _ l)
abbrev zsj:TypeId:=140
def zf5:Go.Shelf.Ren:=⟨fun | 7=>51 | 10=>85 | n=>n,fun | 23=>100 | 26=>9 | 3=>62 | 28=>106 | 0=>0 | 27=>105 | 33=>109 | 4=>4 | n=>n,fun | n=>n⟩
theorem zum:Go.Proofs.SlLaysZ.n7 prog zf5:={
 mixed:=by kernel_rfl
 f7:=⟨Tryz.f51.name,by decide,func51.trans (congrArg some (by kernel_rfl))⟩
 f10:=⟨Tryz.f85.name,by decide,func85.trans (congrArg some (by kernel_rfl))⟩
 t0:=underlying0
 a0:=isAgg0
 z0:=sizeOf0
 v0:=zeroValue0
 t4:=underlying4
 a4:=isAgg4
 z4:=sizeOf4
 v4:=zeroValue4
 t23:=underlying100
 a23:=isAgg100
 z23:=sizeOf100
 v23:=zeroValue100
 t26:=underlying9
 a26:=isAgg9
 z26:=sizeOf9
 v26:=zeroValue9
 t27:=underlying105
 a27:=isAgg105
 z27:=sizeOf105
 v27:=zeroValue105
 t28:=underlying106
 a28:=isAgg106
 z28:=sizeOf106
 v28:=zeroValue106
 t33:=underlying109
 a33:=isAgg109
 z33:=sizeOf109
 v33:=zeroValue109 }
theorem zjx (mb:Option Nat) (W:World):Calls prog 51 #[.map mb] W fun e w' =>e= .returned (.func (.func 85) #[] #[.pointer (some ⟨W.heap.size,0,none⟩)])/\w' =W.alloc (.cells #[.map mb] 100):=
 callsIn_wide.1 (AnyZ.keys_in zum Fence.wide 5 trivial rfl mb W)
theorem zf6 {H:Type} (b nn:Nat) (D0:DataW H) (R:Value->Option (DataW H×List MemPlace)) (w:World) (hown:w.ownsMap prog 9 R b nn D0) (hmax:Maps.size D0<=maxLen) (hbytes:Maps.size D0*16<=140737488355328):
 Calls prog 50 #[.func (.func 85) #[] #[.pointer (some ⟨w.heap.size,0,none⟩)]] (w.alloc (.cells #[.map (some b)] 100)) fun e w' =>∃ (v:Value) (ss:List (List UInt8)),e= .returned v/\ss.Perm (strKeys D0)/\
  w'.ownsRow (w.alloc (.cells #[.map (some b)] 100)).heap.size 9 1 v ss.length ((ss.mergeSort (fun x y=>decide (x<=y))).map encStr)/\(v= .slice none 0 0↔ss=[])/\Below (w.alloc (.cells #[.map (some b)] 100)).heap.size (w.alloc (.cells #[.map (some b)] 100)) w' :=by
 have m:=hown.lt
 have l:SeqGives Fence.wide 2 prog 85 #[.pointer (some ⟨w.heap.size,0,none⟩)] encStr (fun ss=>ss.Perm (strKeys D0)) (Maps.size D0) (w.alloc (.cells #[.map (some b)] 100)):=
  AnyZ.keys_gives (ρ:=zf5) { zum with } Fence.wide _ trivial rfl (by omega) w.heap.size b nn D0 _ (by simp) (by simp) (by
   obtain ⟨r,u,hb,j,z,B⟩:=hown
   exact ⟨r,u,(Below.heap_alloc _ _ b m).trans hb,j,z,B⟩)
 exact callsIn_wide.1 (AnyZ.sorted_in zud Fence.wide 5 trivial trivial trivial trivial rfl (by omega) (zjf _) (enters_of func84 (by kernel_rfl) rfl) 85 #[.pointer (some ⟨w.heap.size,0,none⟩)] trivial (enters_of func85 (by kernel_rfl) rfl) _ _ hmax hbytes _ l)
abbrev zq6:TypeId:=100
end Go.Proofs.YtofmkndhocinmaaGreatDoor
